/- Parts of the walks of the laws on fining: Clr, Sx6, F22, Clr2, F23. -/
import Derived.Test.YtofkhehcnfiopaaDoorCCh
import Derived.Test.YtofkhehcnfiopaaDoorCGoals
import Derived.Test.YtofkhehcnfiopaaDoorCOpt
import Derived.Test.YtofkhehcnfiopaaDoorProg
namespace Go.Proofs.YtofkhehcnfiopaaDoor.N
open Go Go.RowKit Go.Proofs
/-! Whether a melt can be cleared, by agents of which some are used. -/
def Us (ags : List Ag) (used : Nat) (x : Ag) : Prop := ∃ i, i < ags.length ∧ used.testBit i = true ∧ ags.getD i default = x
def Clr (ags : List Ag) (used p f : Nat) : Prop := ∃ c k, Wy ags used p f c k
theorem can_mem {ags : List Ag} {used f i : Nat} : i ∈ canTo ags used f ags.length ↔ i < ags.length ∧ used.testBit i = true ∧ mayN (ags.getD i default) f = true := by
  constructor
  · exact canTo_mem
  · rintro ⟨h1, h2, h3⟩
    unfold canTo
    refine List.mem_filter.2 ⟨List.mem_range.2 h1, ?_⟩
    rw [h2, h3]; rfl
theorem Wy.mono {ags ags' : List Ag} {used used' p p' : Nat} (hu : ∀ x, Us ags used x → Us ags' used' x) (hp : ∀ f, nn f p = 0 → nn f p' = 0) : ∀ {f c k : Nat}, Wy ags used p f c k → Wy ags' used' p' f c k := by
  intro f c k h
  induction h with
  | done h => exact .done (hp _ h)
  | @step f i c k hi _ ih =>
    obtain ⟨h1, h2, h3⟩ := can_mem.1 hi
    obtain ⟨j, g1, g2, g3⟩ := hu _ ⟨i, h1, h2, rfl⟩
    rw [← g3] at ih h3 ⊢
    exact .step (can_mem.2 ⟨g1, g2, h3⟩) ih
theorem Clr.mono {ags ags' : List Ag} {used used' p p' : Nat} (hu : ∀ x, Us ags used x → Us ags' used' x) (hp : ∀ f, nn f p = 0 → nn f p' = 0) {f : Nat} (h : Clr ags used p f) : Clr ags' used' p' f := by
  obtain ⟨c, k, h⟩ := h
  exact ⟨c, k, h.mono hu hp⟩
theorem us_all {ags : List Ag} {x : Ag} : Us ags (usedAll ags.length) x ↔ x ∈ ags := by
  constructor
  · rintro ⟨i, h1, _, rfl⟩
    rw [List.getD_eq_getElem?_getD, List.getElem?_eq_getElem h1]
    exact List.getElem_mem h1
  · intro h
    obtain ⟨i, hi, rfl⟩ := List.getElem_of_mem h
    exact ⟨i, hi, by rw [usedAll_bit]; simpa using hi, by rw [List.getD_eq_getElem?_getD, List.getElem?_eq_getElem hi]; rfl⟩
/-- One melt's steps are those of a team of one. -/
theorem step_one {ags : List Ag} {used f i a b : Nat} : stepT ags used 1 (f, a, b) i = if i ∈ canTo ags used f ags.length then some (putN (ags.getD i default) f, a, b) else none := by
  unfold stepT
  have hm : mayT (ags.getD i default) (f, a, b) 1 = mayN (ags.getD i default) f := by simp [mayT, List.range_succ, tget]
  rw [hm]
  by_cases h : i < ags.length ∧ used.testBit i = true ∧ mayN (ags.getD i default) f = true
  · rw [if_pos h, if_pos (can_mem.2 h)]
    rfl
  · rw [if_neg h, if_neg (fun x => h (can_mem.1 x))]
theorem run_wy {ags : List Ag} {used p : Nat} : ∀ (v : List Nat) (f a b : Nat) (t : Tm), run (stepT ags used 1) (f, a, b) v = some t → nn t.1 p = 0 → ∃ c, Wy ags used p f c v.length
  | [], f, a, b, t, h, hc => by
    cases h
    exact ⟨0, .done hc⟩
  | i :: v, f, a, b, t, h, hc => by
    have h' : (stepT ags used 1 (f, a, b) i).bind (fun s => run (stepT ags used 1) s v) = some t := h
    rw [step_one] at h'
    split at h'
    · rename_i hi
      obtain ⟨c, hw⟩ := run_wy v _ a b t h' hc
      exact ⟨_, .step hi hw⟩
    · cases h'
theorem wy_run {ags : List Ag} {used p : Nat} {f c k : Nat} (h : Wy ags used p f c k) (a b : Nat) : ∃ v t, run (stepT ags used 1) (f, a, b) v = some t ∧ nn t.1 p = 0 ∧ v.length = k := by
  induction h with
  | @done f h => exact ⟨[], (f, a, b), rfl, h, rfl⟩
  | @step f i c k hi _ ih =>
    obtain ⟨v, t, h1, h2, h3⟩ := ih
    refine ⟨i :: v, t, ?_, h2, by rw [List.length_cons, h3]⟩
    show (stepT ags used 1 (f, a, b) i).bind (fun s => run (stepT ags used 1) s v) = some t
    rw [step_one, if_pos hi]
    exact h1
/-- What Shortest finds: fewest agents, if any. -/
theorem short_spec {ags : List Ag} {used p f : Nat} {o : Option Wk} (ho : FoundO ags used 1 (-1) (f, 0, 0) (fun t => decide (nn t.1 p = 0)) o) :
    (o.isSome = true ↔ Clr ags used p f) ∧ ((∃ c, Wy ags used p f c (wayO o).how.length) ∨ o = none) ∧ (o = none ∨ ∀ c k, Wy ags used p f c k → (wayO o).how.length ≤ k) := by
  cases o with
  | none =>
    refine ⟨⟨fun h => Bool.noConfusion h, ?_⟩, .inr rfl, .inl rfl⟩
    rintro ⟨c, k, h⟩
    obtain ⟨v, t, h1, h2, _⟩ := wy_run h 0 0
    have := ho v t h1 (.inl (by decide))
    simp [h2] at this
  | some w =>
    obtain ⟨h1, h2, h3⟩ := ho
    obtain ⟨c, hw⟩ := run_wy w.how f 0 0 w.team h2 (of_decide_eq_true h3)
    refine ⟨⟨fun _ => ⟨c, _, hw⟩, fun _ => rfl⟩, .inl ⟨c, hw⟩, .inr fun c' k' h' => ?_⟩
    obtain ⟨v, t, g1, g2, g3⟩ := wy_run h' 0 0
    have hle := h1.2.2 v t g1 (decide_eq_true g2) (.inl (by decide))
    show w.how.length ≤ k'
    rcases Nat.lt_or_ge k' w.how.length with h | h
    · have hv := run_wd _ stepT_none _ _ _ g1
      have := code_lt_of_len ags.length w.how.length w.how v rfl (by omega) hv
      omega
    · exact h
/-- A set of melts as a number. -/
def SetN (n : Nat) (q : Nat → Prop) : Prop := n < 18446744073709551616 ∧ ∀ f, f < 64 → (n.testBit f = true ↔ q f)
theorem SetN.compl {n : Nat} {q : Nat → Prop} (h : SetN n q) : SetN (18446744073709551615 ^^^ n) (fun f => ¬ q f) := by
  refine ⟨show _ < 2 ^ 64 from Nat.xor_lt_two_pow (by decide) h.1, fun f hf => ?_⟩
  rw [Nat.testBit_xor]
  have e : (18446744073709551615 : Nat).testBit f = true := by
    rw [show (18446744073709551615 : Nat) = 2 ^ 64 - 1 by decide, Nat.testBit_two_pow_sub_one]
    simpa using hf
  show _ ↔ ¬ q f
  rw [e, ← h.2 f hf]
  cases n.testBit f <;> simp
theorem testBit_or_one (n f g : Nat) : (n ||| 1 <<< f).testBit g = (n.testBit g || decide (f = g)) := by
  rw [Nat.testBit_or, Nat.one_shiftLeft, Nat.testBit_two_pow]
/-- The melts of a set. -/
def listN (n k : Nat) : List Nat := (List.range k).filter fun f => n.testBit f
theorem listN_succ (n k : Nat) : listN n (k + 1) = listN n k ++ (if n.testBit k = true then [k] else []) := by
  unfold listN
  rw [List.range_succ, List.filter_append]
  congr 1
  by_cases h : n.testBit k = true
  · rw [if_pos h]; simp [h]
  · rw [if_neg h]; simp [h]
theorem listN_len (n k : Nat) : (listN n k).length ≤ k := by
  unfold listN
  exact Nat.le_trans (List.length_filter_le _ _) (by simp)
theorem listN_mem {n f : Nat} : f ∈ listN n 64 ↔ f < 64 ∧ n.testBit f = true := by
  unfold listN
  rw [List.mem_filter, List.mem_range]
theorem listN_set {n m : Nat} {q : Nat → Prop} (h : SetN n q) (h' : SetN m q) : listN n 64 = listN m 64 := by
  unfold listN
  refine List.filter_congr fun f hf => ?_
  have hf' := List.mem_range.1 hf
  have h1 := h.2 f hf'
  have h2 := h'.2 f hf'
  cases e1 : n.testBit f <;> cases e2 : m.testBit f <;> simp_all
theorem SetN.eq {n m : Nat} {q : Nat → Prop} (h : SetN n q) (h' : SetN m q) : n = m := by
  refine Nat.eq_of_testBit_eq fun f => ?_
  rcases Nat.lt_or_ge f 64 with hf | hf
  · have h1 := h.2 f hf
    have h2 := h'.2 f hf
    cases e1 : n.testBit f <;> cases e2 : m.testBit f <;> simp_all
  · have hp : (2 : Nat) ^ 64 ≤ 2 ^ f := Nat.pow_le_pow_right (by omega) hf
    have h1 : n < 2 ^ f := Nat.lt_of_lt_of_le h.1 hp
    have h2 : m < 2 ^ f := Nat.lt_of_lt_of_le h'.1 hp
    rw [Nat.testBit_lt_two_pow h1, Nat.testBit_lt_two_pow h2]
theorem drop_pr : ∀ (ps : List Pr) (k : Nat), k < ps.length → ((ps.flatMap Pr.cells).drop (k * 3)).take 3 = (ps.getD k default).cells
  | [], k, h => by cases h
  | p :: ps, 0, _ => by rfl
  | p :: ps, k + 1, h => by
    have := drop_pr ps k (by simpa using h)
    rw [List.flatMap_cons, show (k + 1) * 3 = p.cells.length + k * 3 by show _ = 3 + k * 3; omega, List.drop_length_add_append, this]
    rfl
theorem fix_all {ags : List Ag} {used p : Nat} (hok : Oks ags) : ∃ N, N ≤ 1000 ∧ (roundP ags used (iterP ags used p N) 64).2 = false := ⟨63, by omega, round_ends hok⟩
theorem known_clr {ags : List Ag} {used p j f : Nat} (hok : Oks ags) (h : (roundP ags used (iterP ags used p j) 64).2 = false) (hf : f < 64) : ((iterP ags used p j).getD f default).known = true ↔ Clr ags used p f :=
  ⟨fun hk => ⟨_, _, Snd.iter hok j f hf hk⟩, fun ⟨_, _, hw⟩ => fix_known hok h hf hw⟩
theorem shl_u64 {f : Nat} (hf : f < 64) : IntKind.u64.wrap (1 * 2 ^ (min ((f : Int)).toNat 64)) = ((1 <<< f : Nat) : Int) := by
  rw [Int.toNat_natCast, Nat.min_eq_left (by omega), Nat.one_shiftLeft, Int.one_mul]
  have h1 : 2 ^ f < 2 ^ 64 := Nat.pow_lt_pow_right (by omega) hf
  have h2 := wrap_u64 (2 ^ f) h1
  rw [← h2]
  congr 1
theorem or_one_lt {n f : Nat} (hn : n < 18446744073709551616) (hf : f < 64) : n ||| 1 <<< f < 18446744073709551616 := by
  have h1 : 1 <<< f < 2 ^ 64 := by rw [Nat.one_shiftLeft]; exact Nat.pow_lt_pow_right (by omega) hf
  exact show _ < 2 ^ 64 from Nat.or_lt_two_pow hn h1
theorem shl_lt {f : Nat} (hf : f < 64) : 1 <<< f < 18446744073709551616 := by
  rw [Nat.one_shiftLeft]
  exact show _ < 2 ^ 64 from Nat.pow_lt_pow_right (by omega) hf
/-- Where a number stands in a list; -1: nowhere. -/
def findL (l : List Int) (n : Int) : Int := if n ∈ l then (l.findIdx (· == n) : Nat) else -1
theorem findL_neg {l : List Int} {n : Int} : findL l n < 0 ↔ n ∉ l := by
  unfold findL
  split
  · rename_i h
    constructor
    · intro h'; omega
    · intro h'; exact absurd h h'
  · rename_i h
    exact ⟨fun _ => h, fun _ => by omega⟩
theorem findL_at {l : List Int} {n : Int} {i : Nat} (hi : l[i]? = some n) (h0 : ∀ j, j < i → l[j]? ≠ some n) : findL l n = (i : Int) := by
  obtain ⟨h1, h2⟩ := List.getElem?_eq_some_iff.1 hi
  unfold findL
  rw [if_pos (List.mem_of_getElem? hi)]
  have : l.findIdx (· == n) = i := by
    rw [List.findIdx_eq h1]
    refine ⟨by rw [h2]; simp, fun j hj => ?_⟩
    have := h0 j hj
    rw [List.getElem?_eq_getElem (by omega)] at this
    simpa using this
  rw [this]
theorem findL_no {l : List Int} {n : Int} (h0 : ∀ j, j < l.length → l[j]? ≠ some n) : findL l n = -1 := by
  unfold findL
  rw [if_neg]
  intro h
  obtain ⟨i, hi, e⟩ := List.getElem_of_mem h
  exact h0 i hi (by rw [List.getElem?_eq_getElem hi, e])
end Go.Proofs.YtofkhehcnfiopaaDoor.N
namespace Go.Proofs.YtofkhehcnfiopaaDoor.N
open Go Go.RowKit Go.Proofs
variable {C : Ctx} {fr : List (Nat × Value)} {hp : List Res} {ops : Array Oper} {Q : Exit → Act → World → Prop} {rest : List Oper} {d : Nat} {ty : TypeId} {pos : String} {after : Array Edge}
/-- a[i] of an array's value, its elements of several cells. -/
theorem lst_index_v {x y : Operand} {t e : TypeId} {cs l : List Value} {len j n m : Nat} {kd : IntKind} {i : Int} {z : Value} (hd : Nat.blt d C.N = true) (hx : ev fr x = some (.agg cs.toArray)) (hy : ev fr y = some (.int kd i))
    (ht : C.P.underlying t = some (.array len e)) (hg : aggB C.P e = true) (he : TI C.P e z n m) (hi : i = (j : Int)) (hj : j < len) (hl : (cs.drop (j * n)).take n = l)
    (k : Lst C ops Q rest ((d, .agg l.toArray) :: fr) hp) : Lst C ops Q (⟨some d, .index t x y, ty, pos, after, none⟩ :: rest) fr hp := by
  obtain ⟨i', hi', _, hs, _⟩ := he
  subst hi
  subst hl
  refine lst_value _ hd (fun a w ha => ⟨w, ?_, ha⟩) k
  have h1 : (isAgg e).run C.P w = .ok true w := by
    unfold aggB at hg
    cases hu : C.P.underlying e with
    | none => rw [hu] at hg; cases hg
    | some de =>
      rw [hu] at hg
      have := run_underlying hu w
      cases de <;> simp_all [isAgg]
  have h2 : (sizeOf e).run C.P w = .ok n w := by simp [sizeOf, typeInfo, hi', hs]
  have h3 : (Instr.index t (.agg cs.toArray) (.int kd (j : Int))).run C.P w = .ok (.agg ((cs.drop (j * n)).take n).toArray) w := by
    have hb : (0 ≤ (j : Int) ∧ (j : Int) < (len : Int)) := by omega
    simp only [Instr.index, asIntOf, Sem.run_bind, Sem.run_pure, Result.andThen_ok, run_underlying ht, if_pos hb, h2, part, h1, if_true, Int.toNat_natCast]
    congr 2
    rw [List.extract_toArray, List.extract_eq_take_drop]
    congr 2
    omega
  simp only [execOp, ha.eval hx, ha.eval hy, Sem.run_bind, h3, Result.andThen_ok, Sem.run_pure]
/-- ^x of 64 bits. -/
theorem lst_not64 {x : Operand} {t : TypeId} {a r : Nat} (hd : Nat.blt d C.N = true) (hx : ev fr x = some (.int .u64 (a : Int))) (ha : a < 18446744073709551616) (hr : 18446744073709551615 ^^^ a = r)
    (k : Lst C ops Q rest ((d, .int .u64 (r : Int)) :: fr) hp) : Lst C ops Q (⟨some d, .unOp .xor t x, ty, pos, after, none⟩ :: rest) fr hp := by
  subst hr
  refine lst_value _ hd (fun a' w ha' => ⟨w, ?_, ha'⟩) k
  have h := u64_xor 18446744073709551615 a (by omega) ha
  have h1 : (Op.unary .xor (.int .u64 (a : Int))).run C.P w = .ok (.int .u64 ((18446744073709551615 ^^^ a : Nat) : Int)) w := by
    have h2 := bin_xor (P := C.P) (w := w) (t := t) h
    have e1 : (if IntKind.u64.signed then (-1 : Int) else IntKind.u64.max) = ((18446744073709551615 : Nat) : Int) := by decide
    show (Op.intBits .xor .u64 (if IntKind.u64.signed then -1 else IntKind.u64.max) (a : Int)).run C.P w = _
    rw [e1]
    rw [← h2]
    rfl
  simp only [execOp, ha'.eval hx, Sem.run_bind, h1, Result.andThen_ok, Sem.run_pure]
end Go.Proofs.YtofkhehcnfiopaaDoor.N
namespace Go.Proofs.YtofkhehcnfiopaaDoor.N
open Go Go.RowKit Go.Proofs
theorem F.agg97 : aggB Tryd.prog 97 = true := by unfold aggB; rw [Tryd.underlying97]
theorem F.ent104 : Enters Tryd.prog 104 := enters_of Tryd.func104 rfl (by kernel_rfl)
theorem F.ent121 : Enters Tryd.prog 121 := enters_of Tryd.func121 rfl (by kernel_rfl)
theorem mhas_c (n f : Nat) (hn : n < 18446744073709551616) (w : World) : Calls Tryd.prog 104 #[.int .u64 (n : Int), .int .u8 (f : Int)] w fun e w' => e = .returned (.bool (n.testBit f)) ∧ Grew w w' [] := by
  have hs1 : n >>> (min f 64) < 18446744073709551616 := Nat.lt_of_le_of_lt (by rw [Nat.shiftRight_eq_div_pow]; exact Nat.div_le_self _ _) hn
  refine enter (N := 10) [(0, .int .u64 (n : Int)), (1, .int .u8 (f : Int))] Tryd.func104 rfl Tryd.ntmps104 rfl rfl ?_
  refine cod_seq ?_
  refine cod_region ?_
  refine lst_assign rfl rfl ?_
  refine lst_nil ?_
  refine ex_then ?_
  refine cod_seq ?_
  refine cod_region ?_
  refine lst_move rfl rfl ?_
  refine lst_move rfl rfl ?_
  refine lst_shr rfl rfl rfl (by omega) (fdiv_shr _ _ _) ?_
  refine lst_int rfl rfl rfl (fun w => bin_and w (u64_and _ 1 hs1 (by omega))) ?_
  refine lst_int rfl rfl rfl bin_eql ?_
  refine lst_assign rfl rfl ?_
  refine lst_nil ?_
  refine ex_then ?_
  refine cod_ret ?_
  refine ex_ret rfl (fun a w ha => res_one rfl rfl ha) (fun a w ha => ?_)
  exact ⟨by rw [← bit_test n f 64 hn]; rfl, ha.grown (List.nil_sublist _)⟩

theorem mwith_c (n f : Nat) (hn : n < 18446744073709551616) (hf : f < 64) (w : World) : Calls Tryd.prog 121 #[.int .u64 (n : Int), .int .u8 (f : Int)] w fun e w' => e = .returned (.int .u64 ((n ||| 1 <<< f : Nat) : Int)) ∧ Grew w w' [] := by
  refine enter (N := 9) [(0, .int .u64 (n : Int)), (1, .int .u8 (f : Int))] Tryd.func121 rfl Tryd.ntmps121 rfl rfl ?_
  refine cod_seq ?_
  refine cod_region ?_
  refine lst_assign rfl rfl ?_
  refine lst_nil ?_
  refine ex_then ?_
  refine cod_seq ?_
  refine cod_region ?_
  refine lst_move rfl rfl ?_
  refine lst_move rfl rfl ?_
  refine lst_shl rfl rfl rfl (by omega) (shl_u64 hf) ?_
  refine lst_int rfl rfl rfl (fun w => bin_or w (u64_or _ _ hn (shl_lt hf))) ?_
  refine lst_assign rfl rfl ?_
  refine lst_nil ?_
  refine ex_then ?_
  refine cod_ret ?_
  refine ex_ret rfl (fun a w ha => res_one rfl rfl ha) (fun a w ha => ?_)
  exact ⟨by rfl, ha.grown (List.nil_sublist _)⟩

theorem mlist_c (n : Nat) (hn : n < 18446744073709551616) (w : World) : Calls Tryd.prog 101 #[.int .u64 (n : Int)] w fun e w' => ∃ A c, e = .returned (.slice A (listN n 64).length c) ∧ Grew w w' [.row 3 1 A (listN n 64).length c (ints (listN n 64))] := by
  refine enter (N := 18) [(0, .int .u64 (n : Int))] Tryd.func101 rfl Tryd.ntmps101 rfl rfl ?_
  refine cod_seq ?_
  refine cod_region ?_
  refine lst_assign rfl rfl ?_
  refine lst_nil ?_
  refine ex_then ?_
  refine cod_seq ?_
  refine cod_region ?_
  refine lst_assign rfl rfl ?_
  refine lst_nil ?_
  refine ex_then ?_
  refine cod_seq ?_
  refine cod_seq ?_
  refine cod_region ?_
  refine lst_move rfl rfl ?_
  refine lst_nil ?_
  refine ex_then ?_
  refine cod_block ?_
  refine cod_nil 3 1 ?_
  refine cod_loop (G := Nat × Option Addr × Nat) (fun g => g.1 ≤ 64) (fun g => 64 - g.1) (fun g => [(0, .int .u64 (n : Int)), (3, .slice g.2.1 (listN n g.1).length g.2.2), (5, .int .i64 (g.1 : Int))]) (fun g => [.row 3 1 g.2.1 (listN n g.1).length g.2.2 (ints (listN n g.1))]) (0, none, 0) (Nat.zero_le _) (by repeat (first | exact Sub.nil _ | refine Sub.cons rfl ?_)) (by repeat (first | exact List.Sublist.refl _ | exact List.nil_sublist _ | refine List.Sublist.cons_cons _ ?_ | refine List.Sublist.cons _ ?_)) ?_
  rintro ⟨k, A1, c1⟩ hk
  (try dsimp only at hk ⊢)
  refine cod_seq ?_
  refine cod_region ?_
  refine lst_int rfl rfl rfl bin_lss ?_
  refine lst_nil ?_
  refine ex_then ?_
  refine cod_seq ?_
  refine cod_cond_dec rfl (fun hc0 => ?_) (fun hc0 => ?_)
  · skip
    have hk64 : k < 64 := by omega
    refine cod_skip ?_
    refine ex_then ?_
    refine cod_seq ?_
    refine cod_block ?_
    refine cod_seq ?_
    refine cod_region ?_
    refine lst_move rfl rfl ?_
    refine lst_assign rfl rfl ?_
    refine lst_nil ?_
    refine ex_then ?_
    refine cod_seq ?_
    refine cod_region ?_
    refine lst_move rfl rfl ?_
    refine lst_move rfl rfl ?_
    refine lst_convert rfl rfl Tryd.underlying3 Tryd.underlying77 (wrap_u8 _ (by omega)) ?_
    refine lst_fn0 (vs := [_, _]) rfl rfl F.ent104 (fun a w ha => mhas_c n k hn w) ?_
    refine lst_nil ?_
    refine ex_then ?_
    refine cod_cond_bool rfl (fun hc1 => ?_) (fun hc1 => ?_)
    · skip
      refine cod_region ?_
      refine lst_move rfl rfl ?_
      refine lst_move rfl rfl ?_
      refine lst_lit (vs := [(0, _)]) rfl rfl Tryd.underlying25 F.ti3 rfl rfl rfl ?_
      intro b14
      refine lst_append rfl rfl rfl Tryd.underlying25 F.ti3 rfl rfl rfl (by have := listN_len n k; unfold maxLen; omega) (by have := listN_len n k; omega) ?_
      intro A2 c2
      refine lst_assign rfl rfl ?_
      refine lst_nil ?_
      refine ex_block_normal ?_
      refine ex_then ?_
      refine cod_region ?_
      refine lst_int rfl rfl rfl (fun w => bin_add w (wrap_i64' _ (by omega) (by omega))) ?_
      refine lst_move rfl rfl ?_
      refine lst_nil ?_
      have e := listN_succ n k
      rw [if_pos hc1] at e
      refine ex_round (k + 1, A2, c2) (by (try dsimp only); omega) (by (try dsimp only); omega) (by (try dsimp only); (try rw [e]); simp only [List.length_append, List.length_singleton]; repeat (first | exact Sub.nil _ | refine Sub.cons rfl ?_)) (by (try dsimp only); (try rw [e]); simp only [ints_snoc, List.length_append, List.length_singleton]; repeat (first | exact List.Sublist.refl _ | exact List.nil_sublist _ | refine List.Sublist.cons_cons _ ?_ | refine List.Sublist.cons _ ?_))
    · skip
      refine cod_skip ?_
      refine ex_block_normal ?_
      refine ex_then ?_
      refine cod_region ?_
      refine lst_int rfl rfl rfl (fun w => bin_add w (wrap_i64' _ (by omega) (by omega))) ?_
      refine lst_move rfl rfl ?_
      refine lst_nil ?_
      have e := listN_succ n k
      rw [if_neg (by rw [hc1]; simp), List.append_nil] at e
      refine ex_round (k + 1, A1, c1) (by (try dsimp only); omega) (by (try dsimp only); omega) (by (try dsimp only); (try rw [e]); repeat (first | exact Sub.nil _ | refine Sub.cons rfl ?_)) (by (try dsimp only); (try rw [e]); repeat (first | exact List.Sublist.refl _ | exact List.nil_sublist _ | refine List.Sublist.cons_cons _ ?_ | refine List.Sublist.cons _ ?_))
  · skip
    refine cod_exit ?_
    refine ex_then_exit ?_
    refine ex_then_exit ?_
    refine ex_block_exit ?_
    refine ex_then ?_
    refine cod_seq ?_
    refine cod_region ?_
    refine lst_move rfl rfl ?_
    refine lst_assign rfl rfl ?_
    refine lst_nil ?_
    refine ex_then ?_
    refine cod_ret ?_
    obtain rfl : k = 64 := by omega
    exact ex_ret rfl (fun a w ha => res_one rfl rfl ha) (fun a w ha => ⟨A1, c1, rfl, ha.grown (by repeat (first | exact List.Sublist.refl _ | exact List.nil_sublist _ | refine List.Sublist.cons_cons _ ?_ | refine List.Sublist.cons _ ?_))⟩)

theorem hopeful_c {C : Ctx} {fr : List (Nat × Value)} {T : List Res} {a : Act} {w : World} (hC : C.P = Tryd.prog) {ags : List Ag} {used p cg : Nat} {aA : Option Addr} (hok : Oks ags) (hu : used < 256) (hp : p < 64) (hAg : Res.row 89 5 aA ags.length cg (ags.flatMap Ag.cells) ∈ T) (ha : At C fr (T) a w) : Calls C.P 100 #[.agg [.slice aA ags.length cg, .int .u8 (used : Int)].toArray, .int .u8 (p : Int)] w fun e w' => ∃ n, SetN n (Clr ags used p) ∧ e = .returned (.int .u64 (n : Int)) ∧ At C fr T a w' := by
  obtain ⟨P, B, w0, N0, ds⟩ := C
  obtain rfl : P = Tryd.prog := hC
  (try dsimp only at hB)
  (try dsimp only at hN)
  refine enter_in (N := 26) [(0, .agg [.slice aA ags.length cg, .int .u8 (used : Int)].toArray), (1, .int .u8 (p : Int))] ha Tryd.func100 rfl Tryd.ntmps100 rfl rfl ?_
  refine cod_seq ?_
  refine cod_region ?_
  refine lst_box rfl rfl ?_
  intro b2
  refine lst_assign rfl rfl ?_
  refine lst_nil ?_
  refine ex_then ?_
  refine cod_seq ?_
  refine cod_region ?_
  refine lst_assign rfl rfl ?_
  refine lst_nil ?_
  refine ex_then ?_
  refine cod_seq ?_
  refine cod_seq ?_
  refine cod_region ?_
  refine lst_loadN rfl rfl F.agg75 F.ti75 ?_
  refine lst_move rfl rfl ?_
  refine lst_call (X := Nat × Nat) (first := []) (cap := []) (vs := [_, _]) (p := fun y => (roundP ags used (iterP ags used p y.1) 64).2 = false) (val := fun y => .pointer (some ⟨y.2, 0, none⟩)) (rs := fun y => .blk y.2 (.cells (mcells (.func (.func 116) #[] #[]) (iterP ags used p (y.1 + 1))).toArray 99 (0, 0)) :: .blk b2 (.cells [.slice aA ags.length cg, .int .u8 (used : Int)].toArray 75 (0, 0)) :: T) rfl rfl rfl F.ent88 (fun a w ha => by
    obtain ⟨N, h64, hN⟩ := fix_all (ags := ags) (used := used) (p := p) hok
    exact (prices_c rfl hok hu hp h64 hN (by simp [hAg]) ha).mono (fun e w' h => by obtain ⟨j, b, h1, h2, h3, h4⟩ := h; exact ⟨(j, b), h2, h3, h4⟩)) ?_
  rintro ⟨j, bm⟩ hfx
  dsimp only at hfx ⊢
  have hsame : iterP ags used p (j + 1) = iterP ags used p j := (round_ch 64 hfx).1
  rw [hsame]
  have hBd := Bd.iter (used := used) (p := p) hok j
  have hkn : ∀ f, f < 64 → (((iterP ags used p j).getD f default).known = true ↔ Clr ags used p f) := fun f hf => known_clr hok hfx hf
  obtain ⟨ps, hpsd⟩ : ∃ ps, iterP ags used p j = ps := ⟨_, rfl⟩
  rw [hpsd] at hBd hkn hfx ⊢
  refine lst_nilCheck rfl rfl ?_
  refine lst_field_z rfl rfl F.fi99_1 F.ti97 ?_
  refine lst_loadN_at (l := ps.flatMap Pr.cells) rfl rfl F.agg97 F.ti97 (by have := mcells_len (.func (.func 116) #[] #[]) ps; rw [hBd.1] at this; simp [mcells] at this; simpa using this) (fun a w ha j u hu => cell_of_blk (ha.mem_blk (InB.mem (b := bm))) (by rw [Nat.add_comm 1 j]; exact hu)) ?_
  refine lst_move rfl rfl ?_
  refine lst_nil ?_
  refine ex_then ?_
  refine cod_block ?_
  refine cod_loop' (G := Nat × Nat) (fun g => g.1 ≤ 64 ∧ g.2 < 18446744073709551616 ∧ ∀ f, f < 64 → (g.2.testBit f = true ↔ f < g.1 ∧ Clr ags used p f)) (fun g => 64 - g.1) (fun g => [(1, .int .u8 (p : Int)), (5, .int .u64 (g.2 : Int)), (13, .agg (ps.flatMap Pr.cells).toArray), (14, .int .i64 (g.1 : Int))]) (fun g => T) (0, 0) ⟨Nat.zero_le _, by decide, fun f _ => ⟨fun h => by simp at h, fun h => absurd h.1 (by omega)⟩⟩ (by repeat (first | exact Sub.nil _ | refine Sub.cons rfl ?_)) (by repeat (first | exact Pck.nil _ | exact Pck.refl _ | (apply Pck.cons; focus ((repeat (first | exact Rem.here _ | apply Rem.there)); done)) | refine Pck.skip _ ?_)) ?_
  rintro ⟨k, n⟩ ⟨hk64, hn, hI⟩
  dsimp only at hk64 hn hI ⊢
  refine cod_seq ?_
  refine cod_region ?_
  refine lst_int rfl rfl rfl bin_lss ?_
  refine lst_nil ?_
  refine ex_then ?_
  refine cod_seq ?_
  refine cod_cond_dec rfl (fun hc0 => ?_) (fun hc0 => ?_)
  · skip
    have hk' : k < 64 := by omega
    refine cod_skip ?_
    refine ex_then ?_
    refine cod_seq ?_
    refine cod_block ?_
    refine cod_seq ?_
    refine cod_region ?_
    refine lst_move rfl rfl ?_
    refine lst_index_v (j := k) (l := [.int .i64 ((ps.getD k default).cost : Int), .int .i64 ((ps.getD k default).puts : Int), .bool (ps.getD k default).known]) rfl rfl rfl Tryd.underlying97 F.agg95 F.ti95 rfl hk' (drop_pr ps k (by rw [hBd.1]; exact hk')) ?_
    refine lst_alloc rfl F.ti95 ?_
    intro b7
    refine lst_assign rfl rfl ?_
    refine lst_store rfl rfl F.ti95 rfl ?_
    refine lst_nil ?_
    refine ex_then ?_
    refine cod_seq ?_
    refine cod_region ?_
    refine lst_field_z rfl rfl F.fi95_2 F.ti4 ?_
    refine lst_load rfl rfl F.one4 ?_
    refine lst_nil ?_
    refine ex_then ?_
    refine cod_cond_bool rfl (fun hc1 => ?_) (fun hc1 => ?_)
    · skip
      refine cod_region ?_
      refine lst_move rfl rfl ?_
      refine lst_move rfl rfl ?_
      refine lst_convert rfl rfl Tryd.underlying3 Tryd.underlying77 (wrap_u8 _ (by omega)) ?_
      refine lst_fn0 (vs := [_, _]) rfl rfl F.ent121 (fun a w ha => mwith_c n k hn hk' w) ?_
      refine lst_assign rfl rfl ?_
      refine lst_nil ?_
      refine ex_block_normal ?_
      refine ex_then ?_
      refine cod_region ?_
      refine lst_int rfl rfl rfl (fun w => bin_add w (wrap_i64' _ (by omega) (by omega))) ?_
      refine lst_move rfl rfl ?_
      refine lst_nil ?_
      refine ex_round' (k + 1, n ||| 1 <<< k) ⟨by omega, or_one_lt hn hk', fun f hf => ?_⟩ (by (try dsimp only); omega) (by repeat (first | exact Sub.nil _ | refine Sub.cons rfl ?_)) (by repeat (first | exact Pck.nil _ | exact Pck.refl _ | (apply Pck.cons; focus ((repeat (first | exact Rem.here _ | apply Rem.there)); done)) | refine Pck.skip _ ?_))
      rw [testBit_or_one, Bool.or_eq_true, decide_eq_true_eq, hI f hf]
      have := (hkn k hk').1 hc1
      constructor
      · rintro (h | h)
        · exact ⟨by omega, h.2⟩
        · subst h; exact ⟨by omega, this⟩
      · rintro ⟨h1, h2⟩
        rcases Nat.lt_or_ge f k with h | h
        · exact .inl ⟨h, h2⟩
        · exact .inr (by omega)
    · skip
      refine cod_skip ?_
      refine ex_block_normal ?_
      refine ex_then ?_
      refine cod_region ?_
      refine lst_int rfl rfl rfl (fun w => bin_add w (wrap_i64' _ (by omega) (by omega))) ?_
      refine lst_move rfl rfl ?_
      refine lst_nil ?_
      refine ex_round' (k + 1, n) ⟨by omega, hn, fun f hf => ?_⟩ (by (try dsimp only); omega) (by repeat (first | exact Sub.nil _ | refine Sub.cons rfl ?_)) (by repeat (first | exact Pck.nil _ | exact Pck.refl _ | (apply Pck.cons; focus ((repeat (first | exact Rem.here _ | apply Rem.there)); done)) | refine Pck.skip _ ?_))
      rw [hI f hf]
      have hno : ¬ Clr ags used p k := fun h => by have := (hkn k hk').2 h; rw [hc1] at this; cases this
      constructor
      · rintro ⟨h1, h2⟩
        exact ⟨by omega, h2⟩
      · rintro ⟨h1, h2⟩
        rcases Nat.lt_or_ge f k with h | h
        · exact ⟨h, h2⟩
        · obtain rfl : f = k := by omega
          exact absurd h2 hno
  · skip
    refine cod_exit ?_
    refine ex_then_exit ?_
    refine ex_then_exit ?_
    refine ex_block_exit ?_
    refine ex_then ?_
    refine cod_seq ?_
    refine cod_region ?_
    refine lst_move rfl rfl ?_
    refine lst_assign rfl rfl ?_
    refine lst_nil ?_
    refine ex_then ?_
    refine cod_ret ?_
    obtain rfl : k = 64 := by omega
    exact ex_ret rfl (fun a w ha => res_one rfl rfl ha) (fun _ _ ha' => ⟨n, ⟨hn, fun f hf => (hI f hf).trans ⟨fun h => h.2, fun h => ⟨hf, h⟩⟩⟩, rfl, ha.back (ha'.pck (by repeat (first | exact Pck.nil _ | exact Pck.refl _ | (apply Pck.cons; focus ((repeat (first | exact Rem.here _ | apply Rem.there)); done)) | refine Pck.skip _ ?_)))⟩)

theorem Find_c (A : Option Addr) (c : Nat) (l : List Int) (n : Int) (hl : l.length ≤ 9000000000) (w : World) (hA : RdL icell 1 w A l) : Calls Tryd.prog 42 #[.slice A l.length c, .int .i64 n] w fun e w' => e = .returned (.int .i64 (findL l n)) ∧ Grew w w' [] := by
  refine enter (N := 19) [(0, .slice A l.length c), (1, .int .i64 n)] Tryd.func42 rfl Tryd.ntmps42 rfl rfl ?_
  refine cod_seq ?_
  refine cod_region ?_
  refine lst_assign rfl rfl ?_
  refine lst_nil ?_
  refine ex_then ?_
  refine cod_seq ?_
  refine cod_seq ?_
  refine cod_region ?_
  refine lst_assign rfl rfl ?_
  refine lst_nil ?_
  refine ex_then ?_
  refine cod_block ?_
  refine cod_loop (G := Nat) (fun k => k ≤ l.length ∧ ∀ j, j < k → l[j]? ≠ some n) (fun k => l.length - k) (fun k => [(0, .slice A l.length c), (1, .int .i64 n), (5, .int .i64 (k : Int))]) (fun k => []) 0 ⟨Nat.zero_le _, fun j h => absurd h (by omega)⟩ (by repeat (first | exact Sub.nil _ | refine Sub.cons rfl ?_)) (by repeat (first | exact List.Sublist.refl _ | exact List.nil_sublist _ | refine List.Sublist.cons_cons _ ?_ | refine List.Sublist.cons _ ?_)) ?_
  intro k hk
  (try dsimp only at hk ⊢)
  refine cod_seq ?_
  refine cod_seq ?_
  refine cod_region ?_
  refine lst_move rfl rfl ?_
  refine lst_move rfl rfl ?_
  refine lst_len rfl rfl Tryd.underlying25 ?_
  refine lst_int rfl rfl rfl bin_lss ?_
  refine lst_nil ?_
  refine ex_then ?_
  refine cod_cond_dec rfl (fun hc0 => ?_) (fun hc0 => ?_)
  · skip
    have hk' : k < l.length := by omega
    obtain ⟨b, o, rfl, hb, hcell⟩ := hA (by omega)
    obtain ⟨x, hx⟩ : ∃ x, l[k]? = some x := ⟨_, List.getElem?_eq_getElem hk'⟩
    refine cod_skip ?_
    refine ex_then ?_
    refine cod_seq ?_
    refine cod_block ?_
    refine cod_seq ?_
    refine cod_region ?_
    refine lst_move rfl rfl ?_
    refine lst_move rfl rfl ?_
    refine lst_index (j := k) rfl rfl rfl Tryd.underlying25 F.ti3 rfl hk' ?_
    refine lst_load_at (v := .int .i64 x) rfl rfl F.one3 (fun a w ha => ha.old (hcell k x hx 0 _ rfl) hb) ?_
    refine lst_move rfl rfl ?_
    refine lst_int rfl rfl rfl bin_eql ?_
    refine lst_nil ?_
    refine ex_then ?_
    refine cod_cond_dec rfl (fun hc1 => ?_) (fun hc1 => ?_)
    · skip
      refine cod_seq ?_
      refine cod_region ?_
      refine lst_move rfl rfl ?_
      refine lst_assign rfl rfl ?_
      refine lst_nil ?_
      refine ex_then ?_
      refine cod_ret ?_
      refine ex_block_ret ?_
      refine ex_then_ret ?_
      refine ex_then_ret ?_
      refine ex_block_ret ?_
      refine ex_then_ret ?_
      exact ex_ret rfl (fun a w ha => res_one rfl rfl ha) (fun a w ha => ⟨by rw [findL_at (by rw [hx, hc1]) hk.2], ha.grown (List.nil_sublist _)⟩)
    · skip
      refine cod_skip ?_
      refine ex_block_normal ?_
      refine ex_then ?_
      refine cod_region ?_
      refine lst_move rfl rfl ?_
      refine lst_int rfl rfl rfl (fun w => bin_add w (wrap_i64' _ (by omega) (by omega))) ?_
      refine lst_assign rfl rfl ?_
      refine lst_nil ?_
      refine ex_round (k + 1) ⟨by omega, fun j hj => ?_⟩ (by (try dsimp only); omega) (by repeat (first | exact Sub.nil _ | refine Sub.cons rfl ?_)) (by repeat (first | exact List.Sublist.refl _ | exact List.nil_sublist _ | refine List.Sublist.cons_cons _ ?_ | refine List.Sublist.cons _ ?_))
      rcases Nat.lt_or_ge j k with h | h
      · exact hk.2 j h
      · obtain rfl : j = k := by omega
        rw [hx]
        exact fun e => hc1 (Option.some.inj e)
  · skip
    refine cod_exit ?_
    refine ex_then_exit ?_
    refine ex_then_exit ?_
    refine ex_block_exit ?_
    refine ex_then ?_
    refine cod_seq ?_
    refine cod_region ?_
    refine lst_assign rfl rfl ?_
    refine lst_nil ?_
    refine ex_then ?_
    refine cod_ret ?_
    exact ex_ret rfl (fun a w ha => res_one rfl rfl ha) (fun a w ha => ⟨by rw [findL_no (fun j hj => hk.2 j (by omega))], ha.grown (List.nil_sublist _)⟩)

end Go.Proofs.YtofkhehcnfiopaaDoor.N
namespace Go.Proofs.YtofkhehcnfiopaaDoor.N
open Go Go.RowKit Go.Proofs
open Classical in
noncomputable def fltP (q : Nat → Prop) (l : List Nat) : List Nat := l.filter fun i => decide (q i)
theorem fltP_yes {q : Nat → Prop} {l : List Nat} {i : Nat} (h : q i) : fltP q (l ++ [i]) = fltP q l ++ [i] := by
  unfold fltP
  rw [List.filter_append]
  simp [h]
theorem fltP_no {q : Nat → Prop} {l : List Nat} {i : Nat} (h : ¬ q i) : fltP q (l ++ [i]) = fltP q l := by
  unfold fltP
  rw [List.filter_append]
  simp [h]
theorem fltP_len (q : Nat → Prop) (l : List Nat) : (fltP q l).length ≤ l.length := List.length_filter_le _ _
theorem fltP_mem {q : Nat → Prop} {l : List Nat} {i : Nat} : i ∈ fltP q l ↔ i ∈ l ∧ q i := by
  unfold fltP
  rw [List.mem_filter]
  simp
theorem fltP_congr {q r : Nat → Prop} {l : List Nat} (h : ∀ i ∈ l, (q i ↔ r i)) : fltP q l = fltP r l := by
  unfold fltP
  refine List.filter_congr fun i hi => ?_
  simp [h i hi]
theorem listN_flt {n : Nat} {q : Nat → Prop} (h : SetN n q) : listN n 64 = fltP q (List.range 64) := by
  unfold listN fltP
  refine List.filter_congr fun f hf => ?_
  have := h.2 f (List.mem_range.1 hf)
  cases e : n.testBit f with
  | true => rw [e] at this; simp [this.1 rfl]
  | false => rw [e] at this; simp; intro hq; have := this.2 hq; cases this
theorem shl_u8 {k : Nat} (hk : k < 8) : IntKind.u8.wrap (1 * 2 ^ (min ((k : Int)).toNat 8)) = ((1 <<< k : Nat) : Int) := by
  rw [Int.toNat_natCast, Nat.min_eq_left (by omega), Nat.one_shiftLeft, Int.one_mul]
  have h1 : 2 ^ k < 2 ^ 8 := Nat.pow_lt_pow_right (by omega) hk
  have h2 := wrap_u8 (2 ^ k) h1
  rw [← h2]
  congr 1
theorem shl8_lt {k : Nat} (hk : k < 8) : 1 <<< k < 256 := by
  rw [Nat.one_shiftLeft]
  exact show _ < 2 ^ 8 from Nat.pow_lt_pow_right (by omega) hk
theorem nn_lt8 {a b : Nat} (ha : a < 256) : nn a b < 256 := by
  unfold nn
  exact show _ < 2 ^ 8 from Nat.xor_lt_two_pow ha (show _ < 2 ^ 8 from and_lt b ha)
/-- The agents but one. -/
def butN (n i : Nat) : Nat := nn (usedAll n) (1 <<< i)
theorem butN_lt {n i : Nat} (hn : n ≤ 4) : butN n i < 256 := nn_lt8 (by have := usedAll_lt hn; omega)
theorem butN_bit {n i j : Nat} (hi : i < n) : (butN n i).testBit j = (decide (j < n) && !decide (j = i)) := by
  unfold butN nn
  rw [Nat.testBit_xor, Nat.testBit_and, usedAll_bit, Nat.one_shiftLeft, Nat.testBit_two_pow]
  by_cases h1 : j < n <;> by_cases h2 : i = j <;> simp [h1, h2]
  · intro h; exact h2 h.symm
theorem us_but {ags : List Ag} {i : Nat} (hi : i < ags.length) {x : Ag} : Us ags (butN ags.length i) x ↔ ∃ j, j < ags.length ∧ j ≠ i ∧ ags.getD j default = x := by
  unfold Us
  constructor
  · rintro ⟨j, h1, h2, h3⟩
    rw [butN_bit hi] at h2
    simp at h2
    exact ⟨j, h1, h2.2, h3⟩
  · rintro ⟨j, h1, h2, h3⟩
    exact ⟨j, h1, by rw [butN_bit hi]; simp [h1, h2], h3⟩
/-- What Needed and Spoils list. -/
noncomputable def needL (ags : List Ag) (p f k : Nat) : List Nat := fltP (fun i => ¬ Clr ags (butN ags.length i) p f) (List.range k)
noncomputable def spoilL (ags : List Ag) (p f : Nat) (l : List Nat) : List Nat := fltP (fun i => ¬ Clr ags (usedAll ags.length) p (putN (ags.getD i default) f)) l
noncomputable def hopeL (ags : List Ag) (p : Nat) : List Nat := fltP (fun f => ¬ Clr ags (usedAll ags.length) p f) (List.range 64)
end Go.Proofs.YtofkhehcnfiopaaDoor.N
namespace Go.Proofs.YtofkhehcnfiopaaDoor.N
open Go Go.RowKit Go.Proofs
theorem F.ent100 : Enters Tryd.prog 100 := enters_of Tryd.func100 rfl (by kernel_rfl)
theorem F.ent101 : Enters Tryd.prog 101 := enters_of Tryd.func101 rfl (by kernel_rfl)
theorem Hopeless_ok (A : Option Addr) (c : Nat) (ags : List Ag) (hok : Oks ags) (p : Nat) (hp : p < 64) (w : World) (hA : RdL Ag.cells 5 w A ags) : Calls Tryd.prog 51 #[.slice A ags.length c, .int .i64 (p : Int)] w fun e w' => ∃ A' c', e = .returned (.tuple #[.slice A' (hopeL ags p).length c', .int .i64 0]) ∧ Grew w w' [.row 3 1 A' (hopeL ags p).length c' (ints (hopeL ags p))] := by
  have hua : usedAll ags.length < 256 := by have := usedAll_lt hok.1; omega
  refine enter_defers (N := 15) [(0, .slice A ags.length c), (1, .int .i64 (p : Int))] Tryd.func51 rfl Tryd.ntmps51 rfl rfl ?_
  refine cod_seq ?_
  refine cod_region ?_
  refine lst_assign rfl rfl ?_
  refine lst_alloc rfl F.ti35 ?_
  intro b5
  refine lst_nil ?_
  refine ex_then ?_
  refine cod_seq ?_
  refine cod_region ?_
  refine lst_defer (first := []) (cap := []) (vs := [_]) rfl rfl ?_
  refine lst_nil ?_
  refine ex_then ?_
  refine cod_seq ?_
  refine cod_region ?_
  refine lst_move rfl rfl ?_
  refine lst_fn (X := Option Addr × Nat) (vs := [_]) (p := fun _ => True) (val := fun x => .agg [.slice x.1 ags.length x.2, .int .u8 (usedAll ags.length : Nat)].toArray) (rs := fun x => [.row 89 5 x.1 ags.length x.2 (ags.flatMap Ag.cells)]) rfl rfl F.ent75 (fun a w ha => (begin_ok A c ags hok w (hA.later ha.below)).mono (fun e w' h => by obtain ⟨A', c', h1, h2⟩ := h; exact ⟨(A', c'), trivial, h1, h2⟩)) ?_
  rintro ⟨aA, cg⟩ -
  dsimp only [List.cons_append, List.nil_append]
  refine lst_alloc rfl F.ti75 ?_
  intro b6
  refine lst_store rfl rfl F.ti75 rfl ?_
  refine lst_nil ?_
  refine ex_then ?_
  refine cod_seq ?_
  refine any_begin [.b b5] F.follows 8 rfl [false, false, false, false, false, false, false, false] rfl ?_
  refine any_take (listed' := [true, false, false, false, false, false, false, false].toArray) 0 rfl rfl rfl (by kernel_rfl) (by kernel_rfl) (by kernel_rfl) (by repeat (first | exact List.Sublist.refl _ | exact List.nil_sublist _ | refine List.Sublist.cons_cons _ ?_ | refine List.Sublist.cons _ ?_)) (yld_loadN rfl F.agg75 F.ti75) rfl ?_
  refine any_take (listed' := [true, true, false, false, false, false, false, false].toArray) 1 rfl rfl rfl (by kernel_rfl) (by kernel_rfl) (by kernel_rfl) (by repeat (first | exact List.Sublist.refl _ | exact List.nil_sublist _ | refine List.Sublist.cons_cons _ ?_ | refine List.Sublist.cons _ ?_)) (yld_move rfl) rfl ?_
  refine any_one (listed' := [true, true, true, false, false, false, false, false].toArray) 2 (by kernel_rfl) rfl rfl ?_
  refine lst_fn0 (vs := [_]) rfl rfl F.ent76 (fun a w ha => melt_ok p hp w) ?_
  refine lst_nil ?_
  refine any_next (by repeat (first | exact List.Sublist.refl _ | exact List.nil_sublist _ | refine List.Sublist.cons_cons _ ?_ | refine List.Sublist.cons _ ?_)) ?_
  refine any_one (listed' := [true, true, true, true, false, false, false, false].toArray) 3 (by kernel_rfl) rfl rfl ?_
  refine lst_call (X := Nat) (first := []) (cap := []) (vs := [_, _]) (p := fun n => SetN n (Clr ags (usedAll ags.length) p)) (val := fun n => .int .u64 (n : Int)) (rs := fun _ => .blk b6 (.cells [.slice aA ags.length cg, .int .u8 (usedAll ags.length : Nat)].toArray 75 (0, 0)) :: .row 89 5 aA ags.length cg (ags.flatMap Ag.cells) :: [.blk b5 (.cells [.int .i64 0].toArray 35 (0, 0))]) rfl rfl rfl F.ent100 (fun a w ha => (hopeful_c rfl hok hua hp (by simp) ha).mono (fun e w' h => h)) ?_
  intro n hset
  dsimp only at hset ⊢
  refine lst_nil ?_
  refine any_next (by repeat (first | exact List.Sublist.refl _ | exact List.nil_sublist _ | refine List.Sublist.cons_cons _ ?_ | refine List.Sublist.cons _ ?_)) ?_
  refine any_one (listed' := [true, true, true, true, true, false, false, false].toArray) 4 (by kernel_rfl) rfl rfl ?_
  refine lst_not64 rfl rfl hset.1 rfl ?_
  refine lst_nil ?_
  refine any_next (by repeat (first | exact List.Sublist.refl _ | exact List.nil_sublist _ | refine List.Sublist.cons_cons _ ?_ | refine List.Sublist.cons _ ?_)) ?_
  refine any_one (listed' := [true, true, true, true, true, true, false, false].toArray) 5 (by kernel_rfl) rfl rfl ?_
  refine lst_fn (X := Option Addr × Nat) (vs := [_]) (p := fun _ => True) (val := fun x => .slice x.1 (hopeL ags p).length x.2) (rs := fun x => [.row 3 1 x.1 (hopeL ags p).length x.2 (ints (hopeL ags p))]) rfl rfl F.ent101 (fun a w ha => (mlist_c (18446744073709551615 ^^^ n) hset.compl.1 w).mono (fun e w' h => by obtain ⟨A', c', h1, h2⟩ := h; rw [listN_flt hset.compl] at h1 h2; exact ⟨(A', c'), trivial, h1, h2⟩)) ?_
  rintro ⟨lA, lc⟩ -
  dsimp only [List.cons_append, List.nil_append]
  refine lst_nil ?_
  refine any_next (by repeat (first | exact List.Sublist.refl _ | exact List.nil_sublist _ | refine List.Sublist.cons_cons _ ?_ | refine List.Sublist.cons _ ?_)) ?_
  refine any_take (listed' := [true, true, true, true, true, true, true, false].toArray) 6 rfl rfl rfl (by kernel_rfl) (by kernel_rfl) (by kernel_rfl) (by repeat (first | exact List.Sublist.refl _ | exact List.nil_sublist _ | refine List.Sublist.cons_cons _ ?_ | refine List.Sublist.cons _ ?_)) (yld_assign rfl) rfl ?_
  refine any_one (listed' := [true, true, true, true, true, true, true, true].toArray) 7 (by kernel_rfl) rfl rfl ?_
  refine lst_store rfl rfl F.ti35 rfl ?_
  refine lst_nil ?_
  refine any_next (by repeat (first | exact List.Sublist.refl _ | exact List.nil_sublist _ | refine List.Sublist.cons_cons _ ?_ | refine List.Sublist.cons _ ?_)) ?_
  refine any_done rfl (by kernel_rfl) ?_
  refine ex_then ?_
  refine cod_ret ?_
  exact ex_ret_caught (fun a w ha => ⟨_, res_tc (fn := Tryd.f51) ha rfl rfl rfl F.one35, lA, lc, rfl, ha.grown (by repeat (first | exact List.Sublist.refl _ | exact List.nil_sublist _ | refine List.Sublist.cons_cons _ ?_ | refine List.Sublist.cons _ ?_))⟩)

theorem Needed_ok (A : Option Addr) (c : Nat) (ags : List Ag) (hok : Oks ags) (f p : Nat) (hf : f < 64) (hp : p < 64) (w : World) (hA : RdL Ag.cells 5 w A ags) : Calls Tryd.prog 55 #[.slice A ags.length c, .int .i64 (f : Int), .int .i64 (p : Int)] w fun e w' => ∃ (L : List Nat) (E : Nat) (A' : Option Addr) (c' : Nat), (E = 0 ∧ Clr ags (usedAll ags.length) p f ∧ L = needL ags p f ags.length ∨ E = 11 ∧ ¬ Clr ags (usedAll ags.length) p f ∧ L = []) ∧ e = .returned (.tuple #[.slice A' L.length c', .int .i64 (E : Int)]) ∧ Grew w w' [.row 3 1 A' L.length c' (ints L)] := by
  have hua : usedAll ags.length < 256 := by have := usedAll_lt hok.1; omega
  refine enter_defers (N := 60) [(0, .slice A ags.length c), (1, .int .i64 (f : Int)), (2, .int .i64 (p : Int))] Tryd.func55 rfl Tryd.ntmps55 rfl rfl ?_
  refine cod_seq ?_
  refine cod_region ?_
  refine lst_assign rfl rfl ?_
  refine lst_alloc rfl F.ti35 ?_
  intro b7
  refine lst_nil ?_
  refine ex_then ?_
  refine cod_seq ?_
  refine cod_region ?_
  refine lst_defer (first := []) (cap := []) (vs := [_]) rfl rfl ?_
  refine lst_nil ?_
  refine ex_then ?_
  refine cod_seq ?_
  refine cod_region ?_
  refine lst_move rfl rfl ?_
  refine lst_fn (X := Option Addr × Nat) (vs := [_]) (p := fun _ => True) (val := fun x => .agg [.slice x.1 ags.length x.2, .int .u8 (usedAll ags.length : Nat)].toArray) (rs := fun x => [.row 89 5 x.1 ags.length x.2 (ags.flatMap Ag.cells)]) rfl rfl F.ent75 (fun a w ha => (begin_ok A c ags hok w (hA.later ha.below)).mono (fun e w' h => by obtain ⟨A', c', h1, h2⟩ := h; exact ⟨(A', c'), trivial, h1, h2⟩)) ?_
  rintro ⟨aA, cg⟩ -
  dsimp only [List.cons_append, List.nil_append]
  refine lst_alloc rfl F.ti75 ?_
  intro b8
  refine lst_store rfl rfl F.ti75 rfl ?_
  refine lst_nil ?_
  refine ex_then ?_
  refine cod_seq ?_
  refine cod_region ?_
  refine lst_move rfl rfl ?_
  refine lst_fn0 (vs := [_]) rfl rfl F.ent76 (fun a w ha => melt_ok f hf w) ?_
  refine lst_move rfl rfl ?_
  refine lst_fn0 (vs := [_]) rfl rfl F.ent76 (fun a w ha => melt_ok p hp w) ?_
  refine lst_assign rfl rfl ?_
  refine lst_assign rfl rfl ?_
  refine lst_nil ?_
  refine ex_then ?_
  refine cod_seq ?_
  refine cod_seq ?_
  refine cod_region ?_
  refine lst_loadN rfl rfl F.agg75 F.ti75 ?_
  refine lst_move rfl rfl ?_
  refine lst_move rfl rfl ?_
  refine lst_call (X := Option Wk) (first := []) (cap := []) (vs := [_, _, _]) (p := FoundO ags (usedAll ags.length) 1 (-1) (f, 0, 0) (fun t => decide (nn t.1 p = 0))) (val := fun o => .tuple #[.slice (wayO o).A (wayO o).how.length (wayO o).c, .bool o.isSome]) (rs := fun o => .row 3 1 (wayO o).A (wayO o).how.length (wayO o).c (ints (wayO o).how) :: .blk b8 (.cells [.slice aA ags.length cg, .int .u8 (usedAll ags.length : Nat)].toArray 75 (0, 0)) :: .row 89 5 aA ags.length cg (ags.flatMap Ag.cells) :: [.blk b7 (.cells [.int .i64 0].toArray 35 (0, 0))]) rfl rfl rfl F.ent102 (fun a w ha => (shortest_c rfl hok hua ⟨hf, show (0 : Nat) < 64 by omega, show (0 : Nat) < 64 by omega⟩ (by omega) (by simp) ha).mono (fun e w' h => by obtain ⟨o, h1, h2, h3⟩ := h; exact ⟨o, h1, h2, h3⟩)) ?_
  intro o hfo
  dsimp only
  refine lst_move rfl rfl ?_
  refine lst_extract rfl rfl rfl ?_
  refine lst_extract rfl rfl rfl ?_
  refine lst_assign rfl rfl ?_
  refine lst_assign rfl rfl ?_
  refine lst_nil ?_
  refine ex_then ?_
  refine cod_seq ?_
  refine cod_region ?_
  refine lst_move rfl rfl ?_
  refine lst_not rfl rfl ?_
  refine lst_nil ?_
  refine ex_then ?_
  refine cod_cond_bool rfl (fun hc0 => ?_) (fun hc0 => ?_)
  · skip
    refine cod_seq ?_
    refine cod_region ?_
    refine lst_assign rfl rfl ?_
    refine lst_store rfl rfl F.ti35 rfl ?_
    refine lst_nil ?_
    refine ex_then ?_
    refine cod_ret ?_
    refine ex_then_ret ?_
    exact ex_ret_caught (fun a w ha => ⟨_, res_tc (fn := Tryd.f55) ha rfl rfl rfl F.one35, [], 11, none, 0, .inr ⟨rfl, (fun h => by rw [(short_spec hfo).1.2 h] at hc0; exact Bool.noConfusion hc0), rfl⟩, rfl, (ha.add_nil 3 1).grown (by repeat (first | exact List.Sublist.refl _ | exact List.nil_sublist _ | refine List.Sublist.cons_cons _ ?_ | refine List.Sublist.cons _ ?_))⟩)
  · skip
    refine cod_skip ?_
    refine ex_then ?_
    refine cod_seq ?_
    refine cod_seq ?_
    refine cod_region ?_
    refine lst_field_z rfl rfl F.fi75_0 F.ti72 ?_
    refine lst_load rfl rfl F.one72 ?_
    refine lst_len rfl rfl Tryd.underlying72 ?_
    refine lst_move rfl rfl ?_
    refine lst_nil ?_
    refine ex_then ?_
    refine cod_block ?_
    have hclr := (short_spec hfo).1.1 (by simpa using hc0)
    refine cod_nil 3 1 ?_
    refine cod_loop (G := Nat × Option Addr × Nat) (fun g => g.1 ≤ ags.length) (fun g => ags.length - g.1) (fun g => [(6, .slice g.2.1 (needL ags p f g.1).length g.2.2), (7, .pointer (some ⟨b7, 0, none⟩)), (8, .pointer (some ⟨b8, 0, none⟩)), (9, .int .u8 (f : Int)), (10, .int .u8 (p : Int)), (34, .int .i64 (ags.length : Int)), (35, .int .i64 (g.1 : Int))]) (fun g => .row 3 1 g.2.1 (needL ags p f g.1).length g.2.2 (ints (needL ags p f g.1)) :: .blk b8 (.cells [.slice aA ags.length cg, .int .u8 (usedAll ags.length : Nat)].toArray 75 (0, 0)) :: .row 89 5 aA ags.length cg (ags.flatMap Ag.cells) :: [.blk b7 (.cells [.int .i64 0].toArray 35 (0, 0))]) (0, none, 0) (Nat.zero_le _) (by repeat (first | exact Sub.nil _ | refine Sub.cons rfl ?_)) (by repeat (first | exact List.Sublist.refl _ | exact List.nil_sublist _ | refine List.Sublist.cons_cons _ ?_ | refine List.Sublist.cons _ ?_)) ?_
    rintro ⟨k, A1, c1⟩ hk
    (try dsimp only at hk ⊢)
    refine cod_seq ?_
    refine cod_region ?_
    refine lst_int rfl rfl rfl bin_lss ?_
    refine lst_nil ?_
    refine ex_then ?_
    refine cod_seq ?_
    refine cod_cond_dec rfl (fun hc1 => ?_) (fun hc1 => ?_)
    · skip
      have hk' : k < ags.length := by omega
      have h4 := hok.1
      refine cod_skip ?_
      refine ex_then ?_
      refine cod_seq ?_
      refine cod_block ?_
      refine cod_seq ?_
      refine cod_region ?_
      refine lst_move rfl rfl ?_
      refine lst_assign rfl rfl ?_
      refine lst_nil ?_
      refine ex_then ?_
      refine cod_seq ?_
      refine cod_region ?_
      refine lst_loadN rfl rfl F.agg75 F.ti75 ?_
      refine lst_alloc rfl F.ti75 ?_
      intro b14
      refine lst_store rfl rfl F.ti75 rfl ?_
      refine lst_nil ?_
      refine ex_then ?_
      refine cod_seq ?_
      refine any_begin [.b b14] F.follows 7 rfl [false, false, false, false, false, false, false] rfl ?_
      refine any_take (listed' := [true, false, false, false, false, false, false].toArray) 0 rfl rfl rfl (by kernel_rfl) (by kernel_rfl) (by kernel_rfl) (by repeat (first | exact List.Sublist.refl _ | exact List.nil_sublist _ | refine List.Sublist.cons_cons _ ?_ | refine List.Sublist.cons _ ?_)) (yld_field_z rfl F.fi75_1 F.ti73) rfl ?_
      refine any_take (listed' := [true, false, true, false, false, false, false].toArray) 2 rfl rfl rfl (by kernel_rfl) (by kernel_rfl) (by kernel_rfl) (by repeat (first | exact List.Sublist.refl _ | exact List.nil_sublist _ | refine List.Sublist.cons_cons _ ?_ | refine List.Sublist.cons _ ?_)) (yld_move rfl) rfl ?_
      refine any_take (listed' := [true, false, true, true, false, false, false].toArray) 3 rfl rfl rfl (by kernel_rfl) (by kernel_rfl) (by kernel_rfl) (by repeat (first | exact List.Sublist.refl _ | exact List.nil_sublist _ | refine List.Sublist.cons_cons _ ?_ | refine List.Sublist.cons _ ?_)) (yld_shl rfl rfl (by omega) (shl_u8 (by omega))) rfl ?_
      refine any_one (listed' := [true, true, true, true, false, false, false].toArray) 1 (by kernel_rfl) rfl rfl ?_
      refine lst_load rfl rfl F.one73 ?_
      refine lst_nil ?_
      refine any_next (by repeat (first | exact List.Sublist.refl _ | exact List.nil_sublist _ | refine List.Sublist.cons_cons _ ?_ | refine List.Sublist.cons _ ?_)) ?_
      refine any_take (listed' := [true, true, true, true, true, false, false].toArray) 4 rfl rfl rfl (by kernel_rfl) (by kernel_rfl) (by kernel_rfl) (by repeat (first | exact List.Sublist.refl _ | exact List.nil_sublist _ | refine List.Sublist.cons_cons _ ?_ | refine List.Sublist.cons _ ?_)) (yld_int rfl rfl (fun w => bin_andNot w (u8_andNot _ _ hua (shl8_lt (by omega))))) rfl ?_
      refine any_take (listed' := [true, true, true, true, true, true, false].toArray) 5 rfl rfl rfl (by kernel_rfl) (by kernel_rfl) (by kernel_rfl) (by repeat (first | exact List.Sublist.refl _ | exact List.nil_sublist _ | refine List.Sublist.cons_cons _ ?_ | refine List.Sublist.cons _ ?_)) (yld_field_z rfl F.fi75_1 F.ti73) rfl ?_
      refine any_one (listed' := [true, true, true, true, true, true, true].toArray) 6 (by kernel_rfl) rfl rfl ?_
      refine lst_store rfl rfl F.ti73 rfl ?_
      refine lst_nil ?_
      refine any_next (by repeat (first | exact List.Sublist.refl _ | exact List.nil_sublist _ | refine List.Sublist.cons_cons _ ?_ | refine List.Sublist.cons _ ?_)) ?_
      refine any_done rfl (by kernel_rfl) ?_
      refine ex_then ?_
      refine cod_seq ?_
      refine cod_region ?_
      refine lst_loadN rfl rfl F.agg75 F.ti75 ?_
      refine lst_move rfl rfl ?_
      refine lst_move rfl rfl ?_
      refine lst_call (X := Option Wk) (first := []) (cap := []) (vs := [_, _, _]) (p := FoundO ags (butN ags.length k) 1 (-1) (f, 0, 0) (fun t => decide (nn t.1 p = 0))) (val := fun o => .tuple #[.slice (wayO o).A (wayO o).how.length (wayO o).c, .bool o.isSome]) (rs := fun o => .row 3 1 (wayO o).A (wayO o).how.length (wayO o).c (ints (wayO o).how) :: .blk b14 (.cells [.slice aA ags.length cg, .int .u8 (butN ags.length k : Nat)].toArray 75 (0, 0)) :: .row 3 1 A1 (needL ags p f k).length c1 (ints (needL ags p f k)) :: .blk b8 (.cells [.slice aA ags.length cg, .int .u8 (usedAll ags.length : Nat)].toArray 75 (0, 0)) :: .row 89 5 aA ags.length cg (ags.flatMap Ag.cells) :: [.blk b7 (.cells [.int .i64 0].toArray 35 (0, 0))]) rfl rfl rfl F.ent102 (fun a w ha => (shortest_c rfl hok (butN_lt hok.1) ⟨hf, show (0 : Nat) < 64 by omega, show (0 : Nat) < 64 by omega⟩ (by omega) (by simp) ha).mono (fun e w' h => by obtain ⟨o, h1, h2, h3⟩ := h; exact ⟨o, h1, h2, h3⟩)) ?_
      intro o2 hfo2
      dsimp only
      refine lst_move rfl rfl ?_
      refine lst_extract rfl rfl rfl ?_
      refine lst_extract rfl rfl rfl ?_
      refine lst_assign rfl rfl ?_
      refine lst_assign rfl rfl ?_
      refine lst_nil ?_
      refine ex_then ?_
      refine cod_seq ?_
      refine cod_region ?_
      refine lst_move rfl rfl ?_
      refine lst_not rfl rfl ?_
      refine lst_nil ?_
      refine ex_then ?_
      refine cod_cond_bool rfl (fun hc2 => ?_) (fun hc2 => ?_)
      · skip
        refine cod_region ?_
        refine lst_move rfl rfl ?_
        refine lst_move rfl rfl ?_
        refine lst_lit (vs := [(0, _)]) rfl rfl Tryd.underlying25 F.ti3 rfl rfl rfl ?_
        intro b56
        refine lst_append rfl rfl rfl Tryd.underlying25 F.ti3 rfl rfl rfl (by have := fltP_len (fun i => ¬ Clr ags (butN ags.length i) p f) (List.range k); rw [List.length_range] at this; unfold needL maxLen; omega) (by have := fltP_len (fun i => ¬ Clr ags (butN ags.length i) p f) (List.range k); rw [List.length_range] at this; unfold needL; omega) ?_
        intro A2 c2
        refine lst_assign rfl rfl ?_
        refine lst_nil ?_
        refine ex_block_normal ?_
        refine ex_then ?_
        refine cod_region ?_
        refine lst_int rfl rfl rfl (fun w => bin_add w (wrap_i64' _ (by omega) (by omega))) ?_
        refine lst_move rfl rfl ?_
        refine lst_nil ?_
        have e : needL ags p f (k + 1) = needL ags p f k ++ [k] := by unfold needL; rw [List.range_succ]; exact fltP_yes (fun h => by rw [(short_spec hfo2).1.2 h] at hc2; cases hc2)
        refine ex_round (k + 1, A2, c2) (by (try dsimp only); omega) (by (try dsimp only); omega) (by (try dsimp only); (try rw [e]); simp only [List.length_append, List.length_singleton]; repeat (first | exact Sub.nil _ | refine Sub.cons rfl ?_)) (by (try dsimp only); (try rw [e]); simp only [ints_snoc, List.length_append, List.length_singleton]; repeat (first | exact List.Sublist.refl _ | exact List.nil_sublist _ | refine List.Sublist.cons_cons _ ?_ | refine List.Sublist.cons _ ?_))
      · skip
        refine cod_skip ?_
        refine ex_block_normal ?_
        refine ex_then ?_
        refine cod_region ?_
        refine lst_int rfl rfl rfl (fun w => bin_add w (wrap_i64' _ (by omega) (by omega))) ?_
        refine lst_move rfl rfl ?_
        refine lst_nil ?_
        have e : needL ags p f (k + 1) = needL ags p f k := by unfold needL; rw [List.range_succ]; exact fltP_no (fun h => h ((short_spec hfo2).1.1 (by simpa using hc2)))
        refine ex_round (k + 1, A1, c1) (by (try dsimp only); omega) (by (try dsimp only); omega) (by (try dsimp only); (try rw [e]); repeat (first | exact Sub.nil _ | refine Sub.cons rfl ?_)) (by (try dsimp only); (try rw [e]); repeat (first | exact List.Sublist.refl _ | exact List.nil_sublist _ | refine List.Sublist.cons_cons _ ?_ | refine List.Sublist.cons _ ?_))
    · skip
      refine cod_exit ?_
      refine ex_then_exit ?_
      refine ex_then_exit ?_
      refine ex_block_exit ?_
      refine ex_then ?_
      refine cod_seq ?_
      refine cod_region ?_
      refine lst_move rfl rfl ?_
      refine lst_assign rfl rfl ?_
      refine lst_store rfl rfl F.ti35 rfl ?_
      refine lst_nil ?_
      refine ex_then ?_
      refine cod_ret ?_
      obtain rfl : k = ags.length := by omega
      exact ex_ret_caught (fun a w ha => ⟨_, res_tc (fn := Tryd.f55) ha rfl rfl rfl F.one35, _, 0, A1, c1, .inl ⟨rfl, hclr, rfl⟩, rfl, ha.grown (by repeat (first | exact List.Sublist.refl _ | exact List.nil_sublist _ | refine List.Sublist.cons_cons _ ?_ | refine List.Sublist.cons _ ?_))⟩)

theorem Spoils_ok (A : Option Addr) (c : Nat) (ags : List Ag) (hok : Oks ags) (f p : Nat) (hf : f < 64) (hp : p < 64) (w : World) (hA : RdL Ag.cells 5 w A ags) : Calls Tryd.prog 57 #[.slice A ags.length c, .int .i64 (f : Int), .int .i64 (p : Int)] w fun e w' => ∃ (L : List Nat) (E : Nat) (A' : Option Addr) (c' : Nat), (E = 0 ∧ Clr ags (usedAll ags.length) p f ∧ L = spoilL ags p f (canTo ags (usedAll ags.length) f ags.length) ∨ E = 11 ∧ ¬ Clr ags (usedAll ags.length) p f ∧ L = []) ∧ e = .returned (.tuple #[.slice A' L.length c', .int .i64 (E : Int)]) ∧ Grew w w' [.row 3 1 A' L.length c' (ints L)] := by
  have hua : usedAll ags.length < 256 := by have := usedAll_lt hok.1; omega
  refine enter_defers (N := 51) [(0, .slice A ags.length c), (1, .int .i64 (f : Int)), (2, .int .i64 (p : Int))] Tryd.func57 rfl Tryd.ntmps57 rfl rfl ?_
  refine cod_seq ?_
  refine cod_region ?_
  refine lst_assign rfl rfl ?_
  refine lst_alloc rfl F.ti35 ?_
  intro b7
  refine lst_nil ?_
  refine ex_then ?_
  refine cod_seq ?_
  refine cod_region ?_
  refine lst_defer (first := []) (cap := []) (vs := [_]) rfl rfl ?_
  refine lst_nil ?_
  refine ex_then ?_
  refine cod_seq ?_
  refine cod_region ?_
  refine lst_move rfl rfl ?_
  refine lst_fn (X := Option Addr × Nat) (vs := [_]) (p := fun _ => True) (val := fun x => .agg [.slice x.1 ags.length x.2, .int .u8 (usedAll ags.length : Nat)].toArray) (rs := fun x => [.row 89 5 x.1 ags.length x.2 (ags.flatMap Ag.cells)]) rfl rfl F.ent75 (fun a w ha => (begin_ok A c ags hok w (hA.later ha.below)).mono (fun e w' h => by obtain ⟨A', c', h1, h2⟩ := h; exact ⟨(A', c'), trivial, h1, h2⟩)) ?_
  rintro ⟨aA, cg⟩ -
  dsimp only [List.cons_append, List.nil_append]
  refine lst_know (φ := 0 < ags.length → ∃ g, aA = some ⟨g, 0, none⟩) (fun a w ha h => row_some (ha.own (.row 89 5 aA ags.length cg (ags.flatMap Ag.cells)) (by simp)) h) (fun hsome => ?_)
  refine lst_alloc rfl F.ti75 ?_
  intro b8
  refine lst_store rfl rfl F.ti75 rfl ?_
  refine lst_nil ?_
  refine ex_then ?_
  refine cod_seq ?_
  refine cod_region ?_
  refine lst_move rfl rfl ?_
  refine lst_fn0 (vs := [_]) rfl rfl F.ent76 (fun a w ha => melt_ok f hf w) ?_
  refine lst_move rfl rfl ?_
  refine lst_fn0 (vs := [_]) rfl rfl F.ent76 (fun a w ha => melt_ok p hp w) ?_
  refine lst_assign rfl rfl ?_
  refine lst_assign rfl rfl ?_
  refine lst_nil ?_
  refine ex_then ?_
  refine cod_seq ?_
  refine cod_region ?_
  refine lst_loadN rfl rfl F.agg75 F.ti75 ?_
  refine lst_move rfl rfl ?_
  refine lst_call (X := Nat) (first := []) (cap := []) (vs := [_, _]) (p := fun n => SetN n (Clr ags (usedAll ags.length) p)) (val := fun n => .int .u64 (n : Int)) (rs := fun _ => .blk b8 (.cells [.slice aA ags.length cg, .int .u8 (usedAll ags.length : Nat)].toArray 75 (0, 0)) :: .row 89 5 aA ags.length cg (ags.flatMap Ag.cells) :: [.blk b7 (.cells [.int .i64 0].toArray 35 (0, 0))]) rfl rfl rfl F.ent100 (fun a w ha => (hopeful_c rfl hok hua hp (by simp) ha).mono (fun e w' h => h)) ?_
  intro n hset
  dsimp only at hset ⊢
  refine lst_assign rfl rfl ?_
  refine lst_nil ?_
  refine ex_then ?_
  refine cod_seq ?_
  refine cod_seq ?_
  refine cod_region ?_
  refine lst_move rfl rfl ?_
  refine lst_move rfl rfl ?_
  refine lst_fn0 (vs := [_, _]) rfl rfl F.ent104 (fun a w ha => mhas_c n f hset.1 w) ?_
  refine lst_not rfl rfl ?_
  refine lst_nil ?_
  refine ex_then ?_
  refine cod_cond_bool rfl (fun hc0 => ?_) (fun hc0 => ?_)
  · skip
    refine cod_seq ?_
    refine cod_region ?_
    refine lst_assign rfl rfl ?_
    refine lst_store rfl rfl F.ti35 rfl ?_
    refine lst_nil ?_
    refine ex_then ?_
    refine cod_ret ?_
    refine ex_then_ret ?_
    exact ex_ret_caught (fun a w ha => ⟨_, res_tc (fn := Tryd.f57) ha rfl rfl rfl F.one35, [], 11, none, 0, .inr ⟨rfl, (fun h => by rw [(hset.2 f hf).2 h] at hc0; exact Bool.noConfusion hc0), rfl⟩, rfl, (ha.add_nil 3 1).grown (by repeat (first | exact List.Sublist.refl _ | exact List.nil_sublist _ | refine List.Sublist.cons_cons _ ?_ | refine List.Sublist.cons _ ?_))⟩)
  · skip
    refine cod_skip ?_
    refine ex_then ?_
    refine cod_seq ?_
    refine cod_seq ?_
    refine cod_region ?_
    refine lst_loadN rfl rfl F.agg75 F.ti75 ?_
    refine lst_move rfl rfl ?_
    refine lst_fn (X := Option Addr × Nat) (vs := [_, _]) (p := fun _ => True) (val := fun x => .slice x.1 (canTo ags (usedAll ags.length) f ags.length).length x.2) (rs := fun x => [.row 3 1 x.1 (canTo ags (usedAll ags.length) f ags.length).length x.2 (ints (canTo ags (usedAll ags.length) f ags.length))]) rfl rfl F.ent89 (fun a w ha => (can_c aA cg ags (usedAll ags.length) f hok hua (by omega) w (row_reads ha (cells := Ag.cells) (e := 89) (c := cg) (n := ags.length) (fun _ => rfl) (by simp) rfl)).mono (fun e w' h => by obtain ⟨A', c', h1, h2⟩ := h; exact ⟨(A', c'), trivial, h1, h2⟩)) ?_
    rintro ⟨cA, cc⟩ -
    dsimp only [List.cons_append, List.nil_append]
    refine lst_len rfl rfl Tryd.underlying25 ?_
    refine lst_move rfl rfl ?_
    refine lst_nil ?_
    refine ex_then ?_
    refine cod_block ?_
    have hclr := (hset.2 f hf).1 (by simpa using hc0)
    refine cod_nil 3 1 ?_
    refine cod_loop (G := Nat × Option Addr × Nat) (fun g => g.1 ≤ (canTo ags (usedAll ags.length) f ags.length).length) (fun g => (canTo ags (usedAll ags.length) f ags.length).length - g.1) (fun g => [(6, .slice g.2.1 (spoilL ags p f ((canTo ags (usedAll ags.length) f ags.length).take g.1)).length g.2.2), (7, .pointer (some ⟨b7, 0, none⟩)), (8, .pointer (some ⟨b8, 0, none⟩)), (9, .int .u8 (f : Int)), (10, .int .u8 (p : Int)), (11, .int .u64 (n : Int)), (29, .slice cA (canTo ags (usedAll ags.length) f ags.length).length cc), (30, .int .i64 ((canTo ags (usedAll ags.length) f ags.length).length : Int)), (31, .int .i64 (g.1 : Int))]) (fun g => .row 3 1 g.2.1 (spoilL ags p f ((canTo ags (usedAll ags.length) f ags.length).take g.1)).length g.2.2 (ints (spoilL ags p f ((canTo ags (usedAll ags.length) f ags.length).take g.1))) :: .row 3 1 cA (canTo ags (usedAll ags.length) f ags.length).length cc (ints (canTo ags (usedAll ags.length) f ags.length)) :: .blk b8 (.cells [.slice aA ags.length cg, .int .u8 (usedAll ags.length : Nat)].toArray 75 (0, 0)) :: .row 89 5 aA ags.length cg (ags.flatMap Ag.cells) :: [.blk b7 (.cells [.int .i64 0].toArray 35 (0, 0))]) (0, none, 0) (Nat.zero_le _) (by repeat (first | exact Sub.nil _ | refine Sub.cons rfl ?_)) (by repeat (first | exact List.Sublist.refl _ | exact List.nil_sublist _ | refine List.Sublist.cons_cons _ ?_ | refine List.Sublist.cons _ ?_)) ?_
    rintro ⟨k, A1, c1⟩ hk
    (try dsimp only at hk ⊢)
    refine cod_seq ?_
    refine cod_region ?_
    refine lst_int rfl rfl rfl bin_lss ?_
    refine lst_nil ?_
    refine ex_then ?_
    refine cod_seq ?_
    refine cod_cond_dec rfl (fun hc1 => ?_) (fun hc1 => ?_)
    · skip
      have ht' : k < (canTo ags (usedAll ags.length) f ags.length).length := by omega
      obtain ⟨i, hci⟩ : ∃ i, (canTo ags (usedAll ags.length) f ags.length)[k]? = some i := ⟨_, List.getElem?_eq_getElem ht'⟩
      obtain ⟨hi', _, _⟩ := canTo_mem (List.mem_of_getElem? hci)
      have hol := hok.1
      obtain ⟨gA, hgA⟩ : ∃ g, aA = some ⟨g, 0, none⟩ := hsome (by omega)
      subst hgA
      obtain ⟨x, hx⟩ : ∃ x, ags[i]? = some x := ⟨_, List.getElem?_eq_getElem hi'⟩
      have hxo : x.ok := hok.2 x (List.mem_of_getElem? hx)
      have hxd : ags.getD i default = x := by rw [List.getD_eq_getElem?_getD, hx]; rfl
      have hcl := canTo_len ags (usedAll ags.length) f ags.length
      have hsl : (spoilL ags p f ((canTo ags (usedAll ags.length) f ags.length).take k)).length ≤ 4 := by have := fltP_len (fun i => ¬ Clr ags (usedAll ags.length) p (putN (ags.getD i default) f)) ((canTo ags (usedAll ags.length) f ags.length).take k); rw [List.length_take] at this; unfold spoilL; omega
      refine cod_skip ?_
      refine ex_then ?_
      refine cod_seq ?_
      refine cod_block ?_
      refine cod_seq ?_
      refine cod_region ?_
      refine lst_index_row (j := k) rfl rfl rfl Tryd.underlying25 F.ti3 rfl ht' rfl rfl ?_
      intro gC hgC
      refine lst_load_row (v := .int .i64 (i : Int)) rfl rfl F.one3 hgC (ints_get hci) ?_
      refine lst_assign rfl rfl ?_
      refine lst_nil ?_
      refine ex_then ?_
      refine cod_seq ?_
      refine cod_region ?_
      refine lst_move rfl rfl ?_
      refine lst_field_z rfl rfl F.fi75_0 F.ti72 ?_
      refine lst_load rfl rfl F.one72 ?_
      refine lst_move rfl rfl ?_
      refine lst_index (j := i) rfl rfl rfl Tryd.underlying72 F.ti89 rfl hi' ?_
      refine lst_loadN_at (l := [.int .i64 (x.needs : Int), .int .i64 (x.no : Int), .int .i64 (x.takes : Int), .int .i64 (x.leaves : Int), .int .i64 (x.cost : Int)]) rfl rfl F.agg89 F.ti89 rfl (fun a w ha j u hu => row_at ha (e := 89) (n := ags.length) (c := cg) (cells := Ag.cells) (by simp) (fun _ => rfl) hx hu) ?_
      refine lst_move rfl rfl ?_
      refine lst_fn0 (vs := [_, _]) rfl rfl F.ent91 (fun a w ha => put_c x f hxo (by omega) w) ?_
      refine lst_fn0 (vs := [_, _]) rfl rfl F.ent104 (fun a w ha => mhas_c n (putN x f) hset.1 w) ?_
      refine lst_not rfl rfl ?_
      refine lst_nil ?_
      refine ex_then ?_
      refine cod_cond_bool rfl (fun hc2 => ?_) (fun hc2 => ?_)
      · skip
        refine cod_region ?_
        refine lst_move rfl rfl ?_
        refine lst_move rfl rfl ?_
        refine lst_lit (vs := [(0, _)]) rfl rfl Tryd.underlying25 F.ti3 rfl rfl rfl ?_
        intro b47
        refine lst_append rfl rfl rfl Tryd.underlying25 F.ti3 rfl rfl rfl (by unfold maxLen; omega) (by omega) ?_
        intro A2 c2
        refine lst_assign rfl rfl ?_
        refine lst_nil ?_
        refine ex_block_normal ?_
        refine ex_then ?_
        refine cod_region ?_
        refine lst_int rfl rfl rfl (fun w => bin_add w (wrap_i64' _ (by omega) (by omega))) ?_
        refine lst_move rfl rfl ?_
        refine lst_nil ?_
        have e : spoilL ags p f ((canTo ags (usedAll ags.length) f ags.length).take (k + 1)) = spoilL ags p f ((canTo ags (usedAll ags.length) f ags.length).take k) ++ [i] := by rw [List.take_add_one, hci]; exact fltP_yes (fun h => by rw [hxd] at h; rw [(hset.2 _ (putN_lt hxo hf)).2 h] at hc2; cases hc2)
        refine ex_round (k + 1, A2, c2) (by (try dsimp only); omega) (by (try dsimp only); omega) (by (try dsimp only); (try rw [e]); simp only [List.length_append, List.length_singleton]; repeat (first | exact Sub.nil _ | refine Sub.cons rfl ?_)) (by (try dsimp only); (try rw [e]); simp only [ints_snoc, List.length_append, List.length_singleton]; repeat (first | exact List.Sublist.refl _ | exact List.nil_sublist _ | refine List.Sublist.cons_cons _ ?_ | refine List.Sublist.cons _ ?_))
      · skip
        refine cod_skip ?_
        refine ex_block_normal ?_
        refine ex_then ?_
        refine cod_region ?_
        refine lst_int rfl rfl rfl (fun w => bin_add w (wrap_i64' _ (by omega) (by omega))) ?_
        refine lst_move rfl rfl ?_
        refine lst_nil ?_
        have e : spoilL ags p f ((canTo ags (usedAll ags.length) f ags.length).take (k + 1)) = spoilL ags p f ((canTo ags (usedAll ags.length) f ags.length).take k) := by rw [List.take_add_one, hci]; exact fltP_no (fun h => h (by rw [hxd]; exact (hset.2 _ (putN_lt hxo hf)).1 (by simpa using hc2)))
        refine ex_round (k + 1, A1, c1) (by (try dsimp only); omega) (by (try dsimp only); omega) (by (try dsimp only); (try rw [e]); repeat (first | exact Sub.nil _ | refine Sub.cons rfl ?_)) (by (try dsimp only); (try rw [e]); repeat (first | exact List.Sublist.refl _ | exact List.nil_sublist _ | refine List.Sublist.cons_cons _ ?_ | refine List.Sublist.cons _ ?_))
    · skip
      obtain rfl : k = (canTo ags (usedAll ags.length) f ags.length).length := by omega
      rw [List.take_length]
      refine cod_exit ?_
      refine ex_then_exit ?_
      refine ex_then_exit ?_
      refine ex_block_exit ?_
      refine ex_then ?_
      refine cod_seq ?_
      refine cod_region ?_
      refine lst_move rfl rfl ?_
      refine lst_assign rfl rfl ?_
      refine lst_store rfl rfl F.ti35 rfl ?_
      refine lst_nil ?_
      refine ex_then ?_
      refine cod_ret ?_
      exact ex_ret_caught (fun a w ha => ⟨_, res_tc (fn := Tryd.f57) ha rfl rfl rfl F.one35, _, 0, A1, c1, .inl ⟨rfl, hclr, rfl⟩, rfl, ha.grown (by repeat (first | exact List.Sublist.refl _ | exact List.nil_sublist _ | refine List.Sublist.cons_cons _ ?_ | refine List.Sublist.cons _ ?_))⟩)

end Go.Proofs.YtofkhehcnfiopaaDoor.N
