/- Parts of the walks of the laws on fining: More, Sx7, F25. -/
import Derived.Test.YtofkhehcnfiopaaDoorCNed
import Derived.Test.YtofkhehcnfiopaaDoorCClr
import Derived.Test.YtofkhehcnfiopaaDoorProg
namespace Go.Proofs.YtofkhehcnfiopaaDoor.N
open Go Go.RowKit Go.Proofs
theorem fltP_sub {q r : Nat → Prop} {l : List Nat} (h : ∀ i ∈ l, q i → r i) : (fltP q l).length ≤ (fltP r l).length := by
  unfold fltP
  rw [← List.countP_eq_length_filter, ← List.countP_eq_length_filter]
  refine List.countP_mono_left fun x hx hq => ?_
  simp only [decide_eq_true_eq] at hq ⊢
  exact h x hx hq
theorem hope_sub {ags ms : List Ag} {p q : Nat} (hu : ∀ x ∈ ags, x ∈ ms) (hp : ∀ f, nn f p = 0 → nn f q = 0) {f : Nat} (h : ¬ Clr ms (usedAll ms.length) q f) : ¬ Clr ags (usedAll ags.length) p f :=
  fun hc => h (hc.mono (fun x hx => us_all.2 (hu x (us_all.1 hx))) hp)
theorem hope_len {ags ms : List Ag} {p q : Nat} (hu : ∀ x ∈ ags, x ∈ ms) (hp : ∀ f, nn f p = 0 → nn f q = 0) : (hopeL ms q).length ≤ (hopeL ags p).length :=
  fltP_sub fun _ _ h => hope_sub hu hp h
theorem hope_mem {ags ms : List Ag} {p q : Nat} (hu : ∀ x ∈ ags, x ∈ ms) (hp : ∀ f, nn f p = 0 → nn f q = 0) {i x : Nat} (h : (hopeL ms q)[i]? = some x) : x ∈ hopeL ags p := by
  have hm := List.mem_of_getElem? h
  unfold hopeL at hm ⊢
  rw [fltP_mem] at hm ⊢
  exact ⟨hm.1, hope_sub hu hp hm.2⟩
theorem hope_le (ags : List Ag) (p : Nat) : (hopeL ags p).length ≤ 64 := by
  have := fltP_len (fun f => ¬ Clr ags (usedAll ags.length) p f) (List.range 64)
  rw [List.length_range] at this
  exact this
theorem find_not {ags : List Ag} {p x : Nat} (h : x ∈ hopeL ags p) : ¬ findL ((hopeL ags p).map fun (n : Nat) => (n : Int)) (x : Int) < 0 := by
  have := find_cast.2 h
  omega
theorem ChS.mono {ags ms : List Ag} {p q f c c' E' : Nat} {W W' : List Nat} (hu : ∀ x ∈ ags, x ∈ ms) (hp : ∀ f, nn f p = 0 → nn f q = 0) (h : ChS ags p f W c 0) (h' : ChS ms q f W' c' E') : E' = 0 ∧ c' ≤ c := by
  have hw := (h.yes rfl).1.1.mono (ags' := ms) (used' := usedAll ms.length) (fun x hx => us_all.2 (hu x (us_all.1 hx))) hp
  by_cases hE : E' = 0
  · have := (h'.yes hE).1.2 _ _ hw
    unfold lexle at this
    exact ⟨hE, by omega⟩
  · exact absurd hw ((h'.no hE).2.2.2 _ _)
theorem nn_or {f p q : Nat} (h : nn f p = 0) : nn f (p ||| q) = 0 := by
  unfold nn at h ⊢
  apply Nat.eq_of_testBit_eq
  intro i
  have := congrArg (fun n => n.testBit i) h
  simp [Nat.testBit_xor, Nat.testBit_and, Nat.testBit_or] at this ⊢
  cases h1 : f.testBit i <;> cases h2 : p.testBit i <;> cases h3 : q.testBit i <;> simp_all
end Go.Proofs.YtofkhehcnfiopaaDoor.N
namespace Go.Proofs.YtofkhehcnfiopaaDoor.N
open Go Go.RowKit Go.Proofs
variable {C : Ctx} {fr : List (Nat × Value)} {hp : List Res} {ops : Array Oper} {Q : Exit → Act → World → Prop} {rest : List Oper} {d : Nat} {ty : TypeId} {pos : String} {after : Array Edge}
theorem flatMap_len {α : Type} {cells : α → List Value} {size : Nat} (hs : ∀ x, (cells x).length = size) (l : List α) : (l.flatMap cells).length = l.length * size := by
  induction l with
  | nil => simp
  | cons x l ih => rw [List.flatMap_cons, List.length_append, hs, ih, List.length_cons, Nat.succ_mul]; omega
theorem RdL.cells_at {α : Type} {cells : α → List Value} {size : Nat} (hs : ∀ x, (cells x).length = size) (h0 : 0 < size) {w : World} {p : Addr} {l : List α} (h : RdL cells size w (some p) l) {j : Nat} {u : Value} (hu : (l.flatMap cells)[j]? = some u) : w.cell? (p.add j) = some u := by
  have hj : j < l.length * size := by
    rw [← flatMap_len hs]
    rcases Nat.lt_or_ge j (l.flatMap cells).length with h1 | h1
    · exact h1
    · rw [List.getElem?_eq_none h1] at hu; cases hu
  have hk : j / size < l.length := Nat.div_lt_of_lt_mul (by rw [Nat.mul_comm]; exact hj)
  obtain ⟨b, o, h1, _, h3⟩ := h (Nat.lt_of_le_of_lt (Nat.zero_le _) hk)
  cases h1
  have hd := Nat.div_add_mod j size
  rw [Nat.mul_comm] at hd
  have hm : j % size < size := Nat.mod_lt _ h0
  have hx : l[j / size]? = some l[j / size] := List.getElem?_eq_getElem hk
  have hjs : j % size < (cells l[j / size]).length := by rw [hs]; exact hm
  have hc : (cells l[j / size])[j % size]? = some (cells l[j / size])[j % size] := List.getElem?_eq_getElem hjs
  have h4 := flatMap_get hs l _ _ hx _ _ hc
  rw [hd, hu] at h4
  have h5 := h3 _ _ hx _ _ hc
  rw [addr_add]
  rw [Nat.add_assoc, hd] at h5
  rw [h5]
  exact h4.symm
/-- What is appended reads as a list. -/
theorem lst_append_cells {α : Type} {cells : α → List Value} {x y : Operand} {t e : TypeId} {A : Option Addr} {p : Addr} {n c m cb size bytes : Nat} {xs : List Value} {l : List α} {z : Value} {hp' : Option Addr → Nat → List Res} (hd : Nat.blt d C.N = true)
    (hx : ev fr x = some (.slice A n c)) (hy : ev fr y = some (.slice (some p) m cb)) (ht : C.P.underlying t = some (.slice e)) (hi : TI C.P e z size bytes) (hzs : z.cells.size = size) (hs0 : Nat.blt 0 size = true) (hs : ∀ x, (cells x).length = size) (ho1 : ∀ x, ∀ u ∈ cells x, u.oneCell' = true)
    (hnews : ∀ a w, At C fr hp a w → RdL cells size w (some p) l) (hl : l.length = m) [hr : InR A e size n c xs hp] [hu : ∀ A' c', UpR A e size n c xs (.row e size A' (n + m) c' (xs ++ l.flatMap cells)) hp (hp' A' c')]
    (h63 : n + m ≤ maxLen) (hbytes : (n + m) * bytes ≤ 140737488355328)
    (k : ∀ A' c', Lst C ops Q rest ((d, .slice A' (n + m) c') :: fr) (hp' A' c')) :
    Lst C ops Q (⟨some d, .call { callee := .builtin .append, args := #[x, y], argTypes := #[t, t] }, ty, pos, after, none⟩ :: rest) fr hp := by
  have ho : ∀ u ∈ l.flatMap cells, u.oneCell' = true := by
    intro u hu'
    obtain ⟨x, _, hx⟩ := List.mem_flatMap.1 hu'
    exact ho1 x u hx
  have hi' := hi
  obtain ⟨i, hi1, hi2, hi3, hi4⟩ := hi'
  have h0 := lt_of_blt hs0
  subst hi4
  refine lst_append_at hd hx hy ht hi hzs hs0 (fun a w ha j u hu => (hnews a w ha).cells_at hs h0 hu) (by rw [flatMap_len hs, hl]) ho (fun w v' w' hown hn hrun => ?_) h63 hbytes k
  exact append_place ht hi1 hi2 (hi3 ▸ hown) (by rw [flatMap_len hs, hi3, hl]) hn ho h63 hbytes hrun
theorem ag_len (x : Ag) : x.cells.length = 5 := rfl
theorem ra_len (x : RA) : x.cells.length = 5 := rfl
theorem ag_one (x : Ag) : ∀ u ∈ x.cells, u.oneCell' = true := by
  intro u hu
  simp [Ag.cells] at hu
  rcases hu with h | h | h | h | h <;> subst h <;> simp [Value.oneCell']
theorem ra_one (x : RA) : ∀ u ∈ x.cells, u.oneCell' = true := by
  intro u hu
  simp [RA.cells] at hu
  rcases hu with h | h | h | h | h <;> subst h <;> simp [Value.oneCell']
end Go.Proofs.YtofkhehcnfiopaaDoor.N
namespace Go.Proofs.YtofkhehcnfiopaaDoor.N
open Go Go.RowKit Go.Proofs
theorem F.ent24 : Enters Tryd.prog 24 := enters_of Tryd.func24 rfl (by kernel_rfl)
theorem F.ent51 : Enters Tryd.prog 51 := enters_of Tryd.func51 rfl (by kernel_rfl)
theorem dupa_nil  (w : World) : Calls Tryd.prog 24 #[.slice none 0 0] w fun e w' => ∃ A' c', e = .returned (.slice A' 0 c') ∧ Grew w w' [.row 24 5 A' 0 c' []] := by
  refine enter (N := 6) [(0, .slice none 0 0)] Tryd.func24 rfl Tryd.ntmps24 rfl rfl ?_
  refine cod_seq ?_
  refine cod_region ?_
  refine lst_assign rfl rfl ?_
  refine lst_nil ?_
  refine ex_then ?_
  refine cod_seq ?_
  refine cod_region ?_
  refine lst_lit0 rfl Tryd.underlying22 F.ti24 ?_
  intro b3
  refine lst_as_row 5 (.head _) ?_
  refine lst_move rfl rfl ?_
  refine lst_append_none rfl rfl rfl Tryd.underlying22 F.ti24 (Nat.le_refl _) ?_
  refine lst_assign rfl rfl ?_
  refine lst_nil ?_
  refine ex_then ?_
  refine cod_ret ?_
  exact ex_ret rfl (fun a w ha => res_one rfl rfl ha) (fun a w ha => ⟨_, 0, rfl, ha.grown (by repeat (first | exact List.Sublist.refl _ | exact List.nil_sublist _ | refine List.Sublist.cons_cons _ ?_ | refine List.Sublist.cons _ ?_))⟩)

theorem dupa_some {α : Type} {cells : α → List Value} (hs : ∀ x, (cells x).length = 5) (ho : ∀ x, ∀ u ∈ cells x, u.oneCell' = true) (p : Addr) (c : Nat) (l : List α) (hl : l.length ≤ 400000) (w : World) (hA : RdL cells 5 w (some p) l) : Calls Tryd.prog 24 #[.slice (some p) l.length c] w fun e w' => ∃ A' c', e = .returned (.slice A' l.length c') ∧ Grew w w' [.row 24 5 A' l.length c' (l.flatMap cells)] := by
  refine enter (N := 6) [(0, .slice (some p) l.length c)] Tryd.func24 rfl Tryd.ntmps24 rfl rfl ?_
  refine cod_seq ?_
  refine cod_region ?_
  refine lst_assign rfl rfl ?_
  refine lst_nil ?_
  refine ex_then ?_
  refine cod_seq ?_
  refine cod_region ?_
  refine lst_lit0 rfl Tryd.underlying22 F.ti24 ?_
  intro b3
  refine lst_as_row 5 (.head _) ?_
  refine lst_move rfl rfl ?_
  refine lst_append_cells (cells := cells) rfl rfl rfl Tryd.underlying22 F.ti24 rfl rfl hs ho (fun a w ha => hA.later ha.below) rfl (by unfold maxLen; omega) (by omega) ?_
  intro A1 c1
  refine lst_assign rfl rfl ?_
  refine lst_nil ?_
  refine ex_then ?_
  refine cod_ret ?_
  simp only [Nat.zero_add, List.nil_append]
  exact ex_ret rfl (fun a w ha => res_one rfl rfl ha) (fun a w ha => ⟨A1, c1, rfl, ha.grown (by repeat (first | exact List.Sublist.refl _ | exact List.nil_sublist _ | refine List.Sublist.cons_cons _ ?_ | refine List.Sublist.cons _ ?_))⟩)

theorem DupAgents_c {α : Type} {cells : α → List Value} (hs : ∀ x, (cells x).length = 5) (ho : ∀ x, ∀ u ∈ cells x, u.oneCell' = true) (A : Option Addr) (c : Nat) (l : List α) (hl : l.length ≤ 400000) (w : World) (hn : A = none → l = [] ∧ c = 0) (hA : RdL cells 5 w A l) :
    Calls Tryd.prog 24 #[.slice A l.length c] w fun e w' => ∃ A' c', e = .returned (.slice A' l.length c') ∧ Grew w w' [.row 24 5 A' l.length c' (l.flatMap cells)] := by
  cases A with
  | none =>
    obtain ⟨rfl, rfl⟩ := hn rfl
    exact dupa_nil w
  | some p => exact dupa_some hs ho p c l hl w hA

theorem FiningMore_c (nA : Option Addr) (nc : Nat) (nums : List Int) (w : World) (hN : RdL icell 1 w nA nums) : Calls Tryd.prog 9 #[.slice nA nums.length nc] w fun e w' => e = .returned (.bool true) ∧ Grew w w' [] := by
  refine enter (N := 160) [(0, .slice nA nums.length nc)] Tryd.func9 rfl Tryd.ntmps9 rfl rfl ?_
  refine cod_seq ?_
  refine cod_region ?_
  refine lst_assign rfl rfl ?_
  refine lst_nil ?_
  refine ex_then ?_
  refine cod_seq ?_
  refine cod_region ?_
  refine lst_move rfl rfl ?_
  refine lst_fn (X := Nat) (vs := [_]) (p := fun _ => True) (val := fun b => .pointer (some ⟨b, 0, none⟩)) (rs := fun b => [.blk b (hatO nA nums.length nc 0 11400714819323198485)]) rfl rfl F.ent22 (fun a w ha => (NewHat_c nA nums.length nc w).mono (fun e w' h => by obtain ⟨b, h1, h2⟩ := h; exact ⟨b, trivial, h1, h2⟩)) ?_
  intro hb _
  dsimp only [List.cons_append, List.nil_append]
  refine lst_assign rfl rfl ?_
  refine lst_nil ?_
  refine ex_then ?_
  refine cod_seq ?_
  refine cod_region ?_
  refine lst_move rfl rfl ?_
  refine lst_call (X := Nat × Nat × List Ag × Option Addr × Nat) (first := []) (cap := []) (vs := [_, _, _]) (p := fun y => y.1 ≤ 200 ∧ y.2.1 < 18446744073709551616 ∧ y.2.2.1.length ≤ 3 ∧ ∀ x ∈ y.2.2.1, x.ok) (val := fun y => .slice y.2.2.2.1 y.2.2.1.length y.2.2.2.2) (rs := fun y => .row 24 5 y.2.2.2.1 y.2.2.1.length y.2.2.2.2 (y.2.2.1.flatMap Ag.cells) :: .blk hb (hatO nA nums.length nc y.1 y.2.1) :: []) rfl rfl rfl F.ent34 (fun a w ha => (AgentsOf_c (C := ⟨Tryd.prog, _, _, _, _⟩) (T := []) (tk := 0) (many := 3) (few := 3) rfl rfl hN (by omega) (by omega) (by omega) (by omega) (by omega) ha).mono (fun e w' h => by obtain ⟨t', s', l, A', c', h1, h2, h3, h4, h5, h6⟩ := h; exact ⟨(t', s', l, A', c'), ⟨by omega, h2, h3, h4⟩, h5, h6⟩)) ?_
  rintro ⟨t1, s1, ags, aA, ac⟩ ⟨ht1, hs1, hagl, hago⟩
  dsimp only at ht1 hs1 hagl hago ⊢
  have hok : Oks ags := ⟨by omega, hago⟩
  refine lst_move rfl rfl ?_
  refine lst_call_pul (X := Nat × Nat) (vs := [_, _]) hb (fun y => hatO nA nums.length nc (t1 + 3 + 3) (y.1)) (fun y => y.1 < 18446744073709551616 ∧ y.2 < 64) (fun y => .int .i64 (y.2 : Int)) rfl rfl F.ent26 (fun a w ha => (PassOf_c (C := ⟨Tryd.prog, _, _, _, _⟩) rfl rfl hN (tk := t1) (st := s1) (few := 3) (by omega) hs1 (by omega) ha).mono (fun e w' h => by obtain ⟨s', x, h1, h2, h3, h4⟩ := h; exact ⟨(s', x), ⟨h1, h2⟩, h3, h4⟩)) ?_
  rintro ⟨s2, p⟩ ⟨hs2, hp⟩
  dsimp only at hs2 hp ⊢
  refine lst_assign rfl rfl ?_
  refine lst_assign rfl rfl ?_
  refine lst_nil ?_
  refine ex_then ?_
  refine cod_seq ?_
  refine any_begin [.b hb] F.follows 13 rfl [false, false, false, false, false, false, false, false, false, false, false, false, false] rfl ?_
  refine any_take (listed' := [true, false, false, false, false, false, false, false, false, false, false, false, false].toArray) 0 rfl rfl rfl (by kernel_rfl) (by kernel_rfl) (by kernel_rfl) (by repeat (first | exact List.Sublist.refl _ | exact List.nil_sublist _ | refine List.Sublist.cons_cons _ ?_ | refine List.Sublist.cons _ ?_)) (yld_move rfl) rfl ?_
  refine any_take (listed' := [true, false, true, false, false, false, false, false, false, false, false, false, false].toArray) 2 rfl rfl rfl (by kernel_rfl) (by kernel_rfl) (by kernel_rfl) (by repeat (first | exact List.Sublist.refl _ | exact List.nil_sublist _ | refine List.Sublist.cons_cons _ ?_ | refine List.Sublist.cons _ ?_)) (yld_move rfl) rfl ?_
  refine any_take (listed' := [true, false, true, false, false, false, true, false, false, false, false, false, false].toArray) 6 rfl rfl rfl (by kernel_rfl) (by kernel_rfl) (by kernel_rfl) (by repeat (first | exact List.Sublist.refl _ | exact List.nil_sublist _ | refine List.Sublist.cons_cons _ ?_ | refine List.Sublist.cons _ ?_)) (yld_move rfl) rfl ?_
  refine any_take (listed' := [true, false, true, false, false, false, true, true, false, false, false, false, false].toArray) 7 rfl rfl rfl (by kernel_rfl) (by kernel_rfl) (by kernel_rfl) (by repeat (first | exact List.Sublist.refl _ | exact List.nil_sublist _ | refine List.Sublist.cons_cons _ ?_ | refine List.Sublist.cons _ ?_)) (yld_move rfl) rfl ?_
  refine any_one (listed' := [true, true, true, false, false, false, true, true, false, false, false, false, false].toArray) 1 (by kernel_rfl) rfl rfl ?_
  refine lst_fn (X := Option Addr × Nat) (vs := [_]) (p := fun _ => True) (val := fun y => .slice y.1 ags.length y.2) (rs := fun y => [.row 24 5 y.1 ags.length y.2 (ags.flatMap Ag.cells)]) rfl rfl F.ent24 (fun a w ha => (DupAgents_c ag_len ag_one aA ac ags (by omega) w (fun h => by obtain ⟨h1, h2⟩ := row_none ha (e := 24) (size := 5) (n := ags.length) (c := ac) (xs := ags.flatMap Ag.cells) (by simp) h; exact ⟨List.eq_nil_of_length_eq_zero h1, h2⟩) (row_reads ha (cells := Ag.cells) (size := 5) (e := 24) (c := ac) (n := ags.length) (fun _ => rfl) (InR.mem (A := aA)) rfl)).mono (fun e w' h => by obtain ⟨A', c', h1, h2⟩ := h; exact ⟨(A', c'), trivial, h1, h2⟩)) ?_
  rintro ⟨dA, dc⟩ -
  dsimp only [List.cons_append, List.nil_append]
  refine lst_nil ?_
  refine any_next (by repeat (first | exact List.Sublist.refl _ | exact List.nil_sublist _ | refine List.Sublist.cons_cons _ ?_ | refine List.Sublist.cons _ ?_)) ?_
  refine any_one (listed' := [true, true, true, true, false, false, true, true, false, false, false, false, false].toArray) 3 (by kernel_rfl) rfl rfl ?_
  refine lst_call_pul (X := Nat × Nat × Ag) (vs := [_, _]) hb (fun y => hatO nA nums.length nc (y.1) (y.2.1)) (fun y => y.1 ≤ t1 + 3 + 3 + 40 ∧ y.2.1 < 18446744073709551616 ∧ y.2.2.ok) (fun y => .agg [.int .i64 (y.2.2.needs : Int), .int .i64 (y.2.2.no : Int), .int .i64 (y.2.2.takes : Int), .int .i64 (y.2.2.leaves : Int), .int .i64 (y.2.2.cost : Int)].toArray) rfl rfl F.ent50 (fun a w ha => (AgentOf_c (C := ⟨Tryd.prog, _, _, _, _⟩) rfl rfl hN (tk := t1 + 3 + 3) (st := s2) (few := 3) (by omega) hs2 (by omega) (by omega) ha).mono (fun e w' h => by obtain ⟨t', s', x, h1, h2, h3, h4, h5⟩ := h; exact ⟨(t', s', x), ⟨h1, h2, h3⟩, h4, h5⟩)) ?_
  rintro ⟨t2, s3, x⟩ ⟨ht2, hs3, hxo⟩
  dsimp only at ht2 hs3 hxo ⊢
  refine lst_nil ?_
  refine any_next (by repeat (first | exact List.Sublist.refl _ | exact List.nil_sublist _ | refine List.Sublist.cons_cons _ ?_ | refine List.Sublist.cons _ ?_)) ?_
  refine any_one (listed' := [true, true, true, true, true, false, true, true, false, false, false, false, false].toArray) 4 (by kernel_rfl) rfl rfl ?_
  refine lst_litN (vs := [(0, _)]) [_, _, _, _, _] rfl rfl Tryd.underlying22 F.ti24 rfl rfl rfl ⟨rfl, [_, _, _, _, _], [], rfl, rfl, rfl, rfl⟩ ?_
  intro b36
  refine lst_nil ?_
  refine any_next (by repeat (first | exact List.Sublist.refl _ | exact List.nil_sublist _ | refine List.Sublist.cons_cons _ ?_ | refine List.Sublist.cons _ ?_)) ?_
  refine any_one (listed' := [true, true, true, true, true, true, true, true, false, false, false, false, false].toArray) 5 (by kernel_rfl) rfl rfl ?_
  refine lst_append rfl rfl rfl Tryd.underlying22 F.ti24 rfl rfl rfl (by unfold maxLen; omega) (by omega) ?_
  intro mA mc
  refine lst_nil ?_
  refine any_next (by repeat (first | exact List.Sublist.refl _ | exact List.nil_sublist _ | refine List.Sublist.cons_cons _ ?_ | refine List.Sublist.cons _ ?_)) ?_
  refine any_one (listed' := [true, true, true, true, true, true, true, true, true, false, false, false, false].toArray) 8 (by kernel_rfl) rfl rfl ?_
  refine lst_call_pul (X := Nat × Nat) (vs := [_, _]) hb (fun y => hatO nA nums.length nc (t2 + 1) (y.1)) (fun y => y.1 < 18446744073709551616 ∧ y.2 ≤ (2 : Int).toNat) (fun y => .int .i64 (y.2 : Int)) rfl rfl F.ent25 (fun a w ha => (To_c (C := ⟨Tryd.prog, _, _, _, _⟩) rfl rfl hN (tk := t2) (st := s3) (n := 2) (by omega) hs3 (by omega) ha).mono (fun e w' h => by obtain ⟨s', x, h1, h2, h3, h4⟩ := h; exact ⟨(s', x), ⟨h1, h2⟩, h3, h4⟩)) ?_
  rintro ⟨s4, m3⟩ ⟨hs4, hm3⟩
  dsimp only at hs4 hm3 ⊢
  have hlm3 : m3 ≤ 2 := by omega
  refine lst_nil ?_
  refine any_next (by repeat (first | exact List.Sublist.refl _ | exact List.nil_sublist _ | refine List.Sublist.cons_cons _ ?_ | refine List.Sublist.cons _ ?_)) ?_
  refine any_take (listed' := [true, true, true, true, true, true, true, true, true, true, false, false, false].toArray) 9 rfl rfl rfl (by kernel_rfl) (by kernel_rfl) (by kernel_rfl) (by repeat (first | exact List.Sublist.refl _ | exact List.nil_sublist _ | refine List.Sublist.cons_cons _ ?_ | refine List.Sublist.cons _ ?_)) (yld_shl rfl rfl (by omega) (shl_i64 (by omega))) rfl ?_
  have hm8 : 2 ^ m3 < 8 := Nat.lt_of_le_of_lt (Nat.pow_le_pow_right (n := 2) (by omega) hlm3) (by decide)
  have hlp : p ||| 2 ^ m3 < 64 := or64 hp (by omega)
  refine any_take (listed' := [true, true, true, true, true, true, true, true, true, true, true, false, false].toArray) 10 rfl rfl rfl (by kernel_rfl) (by kernel_rfl) (by kernel_rfl) (by repeat (first | exact List.Sublist.refl _ | exact List.nil_sublist _ | refine List.Sublist.cons_cons _ ?_ | refine List.Sublist.cons _ ?_)) (yld_int rfl rfl (fun w => bin_or w (i64_or p (2 ^ m3) (by omega) (by omega)))) rfl ?_
  refine any_take (listed' := [true, true, true, true, true, true, true, true, true, true, true, true, false].toArray) 11 rfl rfl rfl (by kernel_rfl) (by kernel_rfl) (by kernel_rfl) (by repeat (first | exact List.Sublist.refl _ | exact List.nil_sublist _ | refine List.Sublist.cons_cons _ ?_ | refine List.Sublist.cons _ ?_)) (yld_assign rfl) rfl ?_
  refine any_take (listed' := [true, true, true, true, true, true, true, true, true, true, true, true, true].toArray) 12 rfl rfl rfl (by kernel_rfl) (by kernel_rfl) (by kernel_rfl) (by repeat (first | exact List.Sublist.refl _ | exact List.nil_sublist _ | refine List.Sublist.cons_cons _ ?_ | refine List.Sublist.cons _ ?_)) (yld_assign rfl) rfl ?_
  refine any_done rfl (by kernel_rfl) ?_
  obtain ⟨ms, hms⟩ : ∃ ms, ms = ags ++ [x] := ⟨_, rfl⟩
  have e1 : ags.length + 1 = ms.length := by rw [hms, List.length_append]; rfl
  have e2 : ags.flatMap Ag.cells ++ [.int .i64 (x.needs : Int), .int .i64 (x.no : Int), .int .i64 (x.takes : Int), .int .i64 (x.leaves : Int), .int .i64 (x.cost : Int)] = ms.flatMap Ag.cells := by rw [hms, List.flatMap_append, List.flatMap_singleton]; rfl
  rw [e1, e2]
  have hokm : Oks ms := ⟨by omega, fun y hy => by rw [hms] at hy; exact (List.mem_append.1 hy).elim (fun h => hago y h) (fun h => by simp at h; subst h; exact hxo)⟩
  have hsub : ∀ y ∈ ags, y ∈ ms := fun y hy => by rw [hms]; exact List.mem_append_left _ hy
  have hnp : ∀ f, nn f p = 0 → nn f p = 0 := fun _ h => h
  have hnl : ∀ f, nn f p = 0 → nn f (p ||| 2 ^ m3) = 0 := fun _ h => nn_or h
  have hsame : ∀ y ∈ ags, y ∈ ags := fun _ h => h
  refine ex_then ?_
  refine cod_seq ?_
  refine cod_region ?_
  refine lst_move rfl rfl ?_
  refine lst_move rfl rfl ?_
  refine lst_fn (X := Option Addr × Nat) (vs := [_, _]) (p := fun _ => True) (val := fun y => .tuple #[.slice y.1 (hopeL ags (p)).length y.2, .int .i64 0]) (rs := fun y => [.row 3 1 y.1 (hopeL ags (p)).length y.2 (ints (hopeL ags (p)))]) rfl rfl F.ent51 (fun a w ha => (Hopeless_ok aA ac ags hok (p) hp w (row_reads ha (cells := Ag.cells) (size := 5) (e := 24) (c := ac) (n := ags.length) (fun _ => rfl) (InR.mem (A := aA)) rfl)).mono (fun e w' h => by obtain ⟨A', c', h1, h2⟩ := h; exact ⟨(A', c'), trivial, h1, h2⟩)) ?_
  rintro ⟨lA1, lc1⟩ -
  dsimp only [List.cons_append, List.nil_append]
  refine lst_move rfl rfl ?_
  refine lst_extract rfl rfl rfl ?_
  refine lst_extract rfl rfl rfl ?_
  refine lst_assign rfl rfl ?_
  refine lst_assign rfl rfl ?_
  refine lst_nil ?_
  refine ex_then ?_
  refine cod_seq ?_
  refine cod_region ?_
  refine lst_move rfl rfl ?_
  refine lst_move rfl rfl ?_
  refine lst_fn (X := Option Addr × Nat) (vs := [_, _]) (p := fun _ => True) (val := fun y => .tuple #[.slice y.1 (hopeL ms (p)).length y.2, .int .i64 0]) (rs := fun y => [.row 3 1 y.1 (hopeL ms (p)).length y.2 (ints (hopeL ms (p)))]) rfl rfl F.ent51 (fun a w ha => (Hopeless_ok mA mc ms hokm (p) hp w (row_reads ha (cells := Ag.cells) (size := 5) (e := 24) (c := mc) (n := ms.length) (fun _ => rfl) (InR.mem (A := mA)) rfl)).mono (fun e w' h => by obtain ⟨A', c', h1, h2⟩ := h; exact ⟨(A', c'), trivial, h1, h2⟩)) ?_
  rintro ⟨lA2, lc2⟩ -
  dsimp only [List.cons_append, List.nil_append]
  refine lst_move rfl rfl ?_
  refine lst_extract rfl rfl rfl ?_
  refine lst_extract rfl rfl rfl ?_
  refine lst_assign rfl rfl ?_
  refine lst_assign rfl rfl ?_
  refine lst_nil ?_
  refine ex_then ?_
  refine cod_seq ?_
  refine cod_region ?_
  refine lst_move rfl rfl ?_
  refine lst_move rfl rfl ?_
  refine lst_fn (X := Option Addr × Nat) (vs := [_, _]) (p := fun _ => True) (val := fun y => .tuple #[.slice y.1 (hopeL ags (p ||| 2 ^ m3)).length y.2, .int .i64 0]) (rs := fun y => [.row 3 1 y.1 (hopeL ags (p ||| 2 ^ m3)).length y.2 (ints (hopeL ags (p ||| 2 ^ m3)))]) rfl rfl F.ent51 (fun a w ha => (Hopeless_ok aA ac ags hok (p ||| 2 ^ m3) hlp w (row_reads ha (cells := Ag.cells) (size := 5) (e := 24) (c := ac) (n := ags.length) (fun _ => rfl) (InR.mem (A := aA)) rfl)).mono (fun e w' h => by obtain ⟨A', c', h1, h2⟩ := h; exact ⟨(A', c'), trivial, h1, h2⟩)) ?_
  rintro ⟨lA3, lc3⟩ -
  dsimp only [List.cons_append, List.nil_append]
  have hb1 := hope_le ags p
  have hb2 := hope_le ms p
  have hb3 := hope_le ags (p ||| 2 ^ m3)
  have hl1 := hope_len hsub hnp
  have hl2 := hope_len hsame hnl
  refine lst_move rfl rfl ?_
  refine lst_extract rfl rfl rfl ?_
  refine lst_extract rfl rfl rfl ?_
  refine lst_assign rfl rfl ?_
  refine lst_assign rfl rfl ?_
  refine lst_nil ?_
  refine ex_then ?_
  refine cod_seq ?_
  refine cod_seq ?_
  refine cod_region ?_
  refine lst_move rfl rfl ?_
  refine lst_int rfl rfl rfl bin_neq ?_
  refine lst_move rfl rfl ?_
  refine lst_on rfl rfl ?_
  refine lst_move rfl rfl ?_
  refine lst_on rfl rfl ?_
  refine lst_int rfl rfl rfl bin_neq ?_
  refine lst_pick_false rfl rfl rfl ?_
  refine lst_move rfl rfl ?_
  refine lst_on rfl rfl ?_
  refine lst_move rfl rfl ?_
  refine lst_on rfl rfl ?_
  refine lst_int rfl rfl rfl bin_neq ?_
  refine lst_pick_false rfl rfl rfl ?_
  refine lst_move rfl rfl ?_
  refine lst_on rfl rfl ?_
  refine lst_move rfl rfl ?_
  refine lst_on rfl rfl ?_
  refine lst_len rfl rfl Tryd.underlying25 ?_
  refine lst_on rfl rfl ?_
  refine lst_move rfl rfl ?_
  refine lst_on rfl rfl ?_
  refine lst_len rfl rfl Tryd.underlying25 ?_
  refine lst_on rfl rfl ?_
  refine lst_int (v := .bool false) rfl rfl rfl (fun w => by rw [bin_gtr, decide_eq_false (by omega)]) ?_
  refine lst_pick_false rfl rfl rfl ?_
  refine lst_move rfl rfl ?_
  refine lst_on rfl rfl ?_
  refine lst_move rfl rfl ?_
  refine lst_on rfl rfl ?_
  refine lst_len rfl rfl Tryd.underlying25 ?_
  refine lst_on rfl rfl ?_
  refine lst_move rfl rfl ?_
  refine lst_on rfl rfl ?_
  refine lst_len rfl rfl Tryd.underlying25 ?_
  refine lst_on rfl rfl ?_
  refine lst_int (v := .bool false) rfl rfl rfl (fun w => by rw [bin_gtr, decide_eq_false (by omega)]) ?_
  refine lst_pick_false rfl rfl rfl ?_
  refine lst_nil ?_
  refine ex_then ?_
  refine cod_cond_false rfl ?_
  refine cod_skip ?_
  refine ex_then ?_
  refine cod_seq ?_
  refine cod_seq ?_
  refine cod_region ?_
  refine lst_assign rfl rfl ?_
  refine lst_nil ?_
  refine ex_then ?_
  refine cod_block ?_
  refine cod_loop' (G := Nat) (fun g => g ≤ (hopeL ms p).length) (fun g => (hopeL ms p).length - g) (fun g => [(4, .slice aA ags.length ac), (5, .int .i64 (p : Int)), (6, .slice mA ms.length mc), (7, .int .i64 ((p ||| 2 ^ m3 : Nat) : Int)), (8, .slice lA1 (hopeL ags p).length lc1), (10, .slice lA2 (hopeL ms p).length lc2), (12, .slice lA3 (hopeL ags (p ||| 2 ^ m3)).length lc3), (14, .int .i64 (g : Int))]) (fun g => .row 3 1 lA3 (hopeL ags (p ||| 2 ^ m3)).length lc3 (ints (hopeL ags (p ||| 2 ^ m3))) :: .row 3 1 lA2 (hopeL ms p).length lc2 (ints (hopeL ms p)) :: .row 3 1 lA1 (hopeL ags p).length lc1 (ints (hopeL ags p)) :: .row 24 5 mA ms.length mc (ms.flatMap Ag.cells) :: .row 24 5 aA ags.length ac (ags.flatMap Ag.cells) :: []) (0) (Nat.zero_le _) (by repeat (first | exact Sub.nil _ | refine Sub.cons rfl ?_)) (by repeat (first | exact Pck.nil _ | exact Pck.refl _ | (apply Pck.cons; focus ((repeat (first | exact Rem.here _ | apply Rem.there)); done)) | refine Pck.skip _ ?_)) ?_
  rintro i hil
  try dsimp only at hil ⊢
  refine cod_seq ?_
  refine cod_seq ?_
  refine cod_region ?_
  refine lst_move rfl rfl ?_
  refine lst_move rfl rfl ?_
  refine lst_len rfl rfl Tryd.underlying25 ?_
  refine lst_int rfl rfl rfl bin_lss ?_
  refine lst_nil ?_
  refine ex_then ?_
  refine cod_cond_dec rfl (fun hc1 => ?_) (fun hc1 => ?_)
  · skip
    have hi' : i < (hopeL ms p).length := by omega
    obtain ⟨y, hy⟩ : ∃ y, (hopeL ms p)[i]? = some y := ⟨_, List.getElem?_eq_getElem hi'⟩
    have hym := hope_mem hsub hnp hy
    refine cod_skip ?_
    refine ex_then ?_
    refine cod_seq ?_
    refine cod_block ?_
    refine cod_seq ?_
    refine cod_region ?_
    refine lst_move rfl rfl ?_
    refine lst_move rfl rfl ?_
    refine lst_move rfl rfl ?_
    refine lst_index_row (j := i) rfl rfl rfl Tryd.underlying25 F.ti3 rfl hi' rfl rfl ?_
    intro gx hgx
    refine lst_load_row (v := .int .i64 (y : Int)) rfl rfl F.one3 hgx (ints_get hy) ?_
    refine lst_fn0 (v := .int .i64 (findL ((hopeL ags p).map fun (n : Nat) => (n : Int)) (y : Int))) (vs := [_, _]) rfl rfl F.ent42 (fun a w ha => by
      have h := Find_c lA1 lc1 ((hopeL ags p).map fun (n : Nat) => (n : Int)) (y : Int) (by rw [List.length_map]; omega) w (RdL.cast (row_reads ha (cells := ncell) (size := 1) (e := 3) (c := lc1) (n := (hopeL ags p).length) (fun _ => rfl) (by rw [← ints_flat]; exact InR.mem (A := lA1)) rfl))
      rw [List.length_map] at h
      exact h) ?_
    refine lst_int (v := .bool false) rfl rfl rfl (fun w => by rw [bin_lss, decide_eq_false (find_not hym)]) ?_
    refine lst_nil ?_
    refine ex_then ?_
    refine cod_cond_false rfl ?_
    refine cod_skip ?_
    refine ex_block_normal ?_
    refine ex_then ?_
    refine cod_region ?_
    refine lst_move rfl rfl ?_
    refine lst_int rfl rfl rfl (fun w => bin_add w (wrap_i64' _ (by omega) (by omega))) ?_
    refine lst_assign rfl rfl ?_
    refine lst_nil ?_
    refine ex_round' (i + 1) (by (try dsimp only); omega) (by (try dsimp only); omega) (by repeat (first | exact Sub.nil _ | refine Sub.cons rfl ?_)) (by repeat (first | exact Pck.nil _ | exact Pck.refl _ | (apply Pck.cons; focus ((repeat (first | exact Rem.here _ | apply Rem.there)); done)) | refine Pck.skip _ ?_))
  · skip
    refine cod_exit ?_
    refine ex_then_exit ?_
    refine ex_then_exit ?_
    refine ex_block_exit ?_
    refine ex_then ?_
    refine cod_seq ?_
    refine cod_seq ?_
    refine cod_region ?_
    refine lst_assign rfl rfl ?_
    refine lst_nil ?_
    refine ex_then ?_
    refine cod_block ?_
    refine cod_loop' (G := Nat) (fun g => g ≤ (hopeL ags (p ||| 2 ^ m3)).length) (fun g => (hopeL ags (p ||| 2 ^ m3)).length - g) (fun g => [(4, .slice aA ags.length ac), (5, .int .i64 (p : Int)), (6, .slice mA ms.length mc), (7, .int .i64 ((p ||| 2 ^ m3 : Nat) : Int)), (8, .slice lA1 (hopeL ags p).length lc1), (10, .slice lA2 (hopeL ms p).length lc2), (12, .slice lA3 (hopeL ags (p ||| 2 ^ m3)).length lc3), (15, .int .i64 (g : Int))]) (fun g => .row 3 1 lA3 (hopeL ags (p ||| 2 ^ m3)).length lc3 (ints (hopeL ags (p ||| 2 ^ m3))) :: .row 3 1 lA2 (hopeL ms p).length lc2 (ints (hopeL ms p)) :: .row 3 1 lA1 (hopeL ags p).length lc1 (ints (hopeL ags p)) :: .row 24 5 mA ms.length mc (ms.flatMap Ag.cells) :: .row 24 5 aA ags.length ac (ags.flatMap Ag.cells) :: []) (0) (Nat.zero_le _) (by repeat (first | exact Sub.nil _ | refine Sub.cons rfl ?_)) (by repeat (first | exact Pck.nil _ | exact Pck.refl _ | (apply Pck.cons; focus ((repeat (first | exact Rem.here _ | apply Rem.there)); done)) | refine Pck.skip _ ?_)) ?_
    rintro i hil
    try dsimp only at hil ⊢
    refine cod_seq ?_
    refine cod_seq ?_
    refine cod_region ?_
    refine lst_move rfl rfl ?_
    refine lst_move rfl rfl ?_
    refine lst_len rfl rfl Tryd.underlying25 ?_
    refine lst_int rfl rfl rfl bin_lss ?_
    refine lst_nil ?_
    refine ex_then ?_
    refine cod_cond_dec rfl (fun hc3 => ?_) (fun hc3 => ?_)
    · skip
      have hi' : i < (hopeL ags (p ||| 2 ^ m3)).length := by omega
      obtain ⟨y, hy⟩ : ∃ y, (hopeL ags (p ||| 2 ^ m3))[i]? = some y := ⟨_, List.getElem?_eq_getElem hi'⟩
      have hym := hope_mem hsame hnl hy
      refine cod_skip ?_
      refine ex_then ?_
      refine cod_seq ?_
      refine cod_block ?_
      refine cod_seq ?_
      refine cod_region ?_
      refine lst_move rfl rfl ?_
      refine lst_move rfl rfl ?_
      refine lst_move rfl rfl ?_
      refine lst_index_row (j := i) rfl rfl rfl Tryd.underlying25 F.ti3 rfl hi' rfl rfl ?_
      intro gx hgx
      refine lst_load_row (v := .int .i64 (y : Int)) rfl rfl F.one3 hgx (ints_get hy) ?_
      refine lst_fn0 (v := .int .i64 (findL ((hopeL ags p).map fun (n : Nat) => (n : Int)) (y : Int))) (vs := [_, _]) rfl rfl F.ent42 (fun a w ha => by
        have h := Find_c lA1 lc1 ((hopeL ags p).map fun (n : Nat) => (n : Int)) (y : Int) (by rw [List.length_map]; omega) w (RdL.cast (row_reads ha (cells := ncell) (size := 1) (e := 3) (c := lc1) (n := (hopeL ags p).length) (fun _ => rfl) (by rw [← ints_flat]; exact InR.mem (A := lA1)) rfl))
        rw [List.length_map] at h
        exact h) ?_
      refine lst_int (v := .bool false) rfl rfl rfl (fun w => by rw [bin_lss, decide_eq_false (find_not hym)]) ?_
      refine lst_nil ?_
      refine ex_then ?_
      refine cod_cond_false rfl ?_
      refine cod_skip ?_
      refine ex_block_normal ?_
      refine ex_then ?_
      refine cod_region ?_
      refine lst_move rfl rfl ?_
      refine lst_int rfl rfl rfl (fun w => bin_add w (wrap_i64' _ (by omega) (by omega))) ?_
      refine lst_assign rfl rfl ?_
      refine lst_nil ?_
      refine ex_round' (i + 1) (by (try dsimp only); omega) (by (try dsimp only); omega) (by repeat (first | exact Sub.nil _ | refine Sub.cons rfl ?_)) (by repeat (first | exact Pck.nil _ | exact Pck.refl _ | (apply Pck.cons; focus ((repeat (first | exact Rem.here _ | apply Rem.there)); done)) | refine Pck.skip _ ?_))
    · skip
      refine cod_exit ?_
      refine ex_then_exit ?_
      refine ex_then_exit ?_
      refine ex_block_exit ?_
      refine ex_then ?_
      refine cod_seq ?_
      refine cod_seq ?_
      refine cod_region ?_
      refine lst_assign rfl rfl ?_
      refine lst_nil ?_
      refine ex_then ?_
      refine cod_block ?_
      refine cod_loop' (G := Nat) (fun g => g ≤ 8) (fun g => 8 - g) (fun g => [(4, .slice aA ags.length ac), (5, .int .i64 (p : Int)), (6, .slice mA ms.length mc), (7, .int .i64 ((p ||| 2 ^ m3 : Nat) : Int)), (16, .int .i64 (g : Int))]) (fun g => .row 24 5 mA ms.length mc (ms.flatMap Ag.cells) :: .row 24 5 aA ags.length ac (ags.flatMap Ag.cells) :: []) (0) (Nat.zero_le _) (by repeat (first | exact Sub.nil _ | refine Sub.cons rfl ?_)) (by repeat (first | exact Pck.nil _ | exact Pck.refl _ | (apply Pck.cons; focus ((repeat (first | exact Rem.here _ | apply Rem.there)); done)) | refine Pck.skip _ ?_)) ?_
      rintro f hfl
      try dsimp only at hfl ⊢
      refine cod_seq ?_
      refine cod_seq ?_
      refine cod_region ?_
      refine lst_move rfl rfl ?_
      refine lst_int rfl rfl rfl bin_lss ?_
      refine lst_nil ?_
      refine ex_then ?_
      refine cod_cond_dec rfl (fun hc5 => ?_) (fun hc5 => ?_)
      · skip
        refine cod_skip ?_
        refine ex_then ?_
        refine cod_seq ?_
        refine cod_block ?_
        refine cod_seq ?_
        refine cod_region ?_
        refine lst_move rfl rfl ?_
        refine lst_move rfl rfl ?_
        refine lst_move rfl rfl ?_
        refine lst_fn (X := List Nat × Nat × Nat × Option Addr × Nat) (vs := [_, _, _]) (p := fun y => ChS ags (p) (f) y.1 y.2.1 y.2.2.1) (val := fun y => .tuple #[.slice y.2.2.2.1 y.1.length y.2.2.2.2, .int .i64 (y.2.1 : Int), .int .i64 (y.2.2.1 : Int)]) (rs := fun y => [.row 3 1 y.2.2.2.1 y.1.length y.2.2.2.2 (ints y.1)]) rfl rfl F.ent35 (fun a w ha => (Cheapest_s aA ac ags hok (f) (p) (by omega) hp w (row_reads ha (cells := Ag.cells) (size := 5) (e := 24) (c := ac) (n := ags.length) (fun _ => rfl) (InR.mem (A := aA)) rfl)).mono (fun e w' h => by obtain ⟨W, k, E, A', c', h1, h2, h3⟩ := h; exact ⟨(W, k, E, A', c'), h1, h2, h3⟩)) ?_
        rintro ⟨W1, k1, E1, wA1, wc1⟩ hc1
        dsimp only [List.cons_append, List.nil_append] at hc1 ⊢
        refine lst_move rfl rfl ?_
        refine lst_extract rfl rfl rfl ?_
        refine lst_extract rfl rfl rfl ?_
        refine lst_extract rfl rfl rfl ?_
        refine lst_assign rfl rfl ?_
        refine lst_assign rfl rfl ?_
        refine lst_assign rfl rfl ?_
        refine lst_nil ?_
        refine ex_then ?_
        refine cod_seq ?_
        refine cod_region ?_
        refine lst_move rfl rfl ?_
        refine lst_move rfl rfl ?_
        refine lst_move rfl rfl ?_
        refine lst_fn (X := List Nat × Nat × Nat × Option Addr × Nat) (vs := [_, _, _]) (p := fun y => ChS ms (p) (f) y.1 y.2.1 y.2.2.1) (val := fun y => .tuple #[.slice y.2.2.2.1 y.1.length y.2.2.2.2, .int .i64 (y.2.1 : Int), .int .i64 (y.2.2.1 : Int)]) (rs := fun y => [.row 3 1 y.2.2.2.1 y.1.length y.2.2.2.2 (ints y.1)]) rfl rfl F.ent35 (fun a w ha => (Cheapest_s mA mc ms hokm (f) (p) (by omega) hp w (row_reads ha (cells := Ag.cells) (size := 5) (e := 24) (c := mc) (n := ms.length) (fun _ => rfl) (InR.mem (A := mA)) rfl)).mono (fun e w' h => by obtain ⟨W, k, E, A', c', h1, h2, h3⟩ := h; exact ⟨(W, k, E, A', c'), h1, h2, h3⟩)) ?_
        rintro ⟨W2, k2, E2, wA2, wc2⟩ hc2
        dsimp only [List.cons_append, List.nil_append] at hc2 ⊢
        refine lst_move rfl rfl ?_
        refine lst_extract rfl rfl rfl ?_
        refine lst_extract rfl rfl rfl ?_
        refine lst_extract rfl rfl rfl ?_
        refine lst_assign rfl rfl ?_
        refine lst_assign rfl rfl ?_
        refine lst_assign rfl rfl ?_
        refine lst_nil ?_
        refine ex_then ?_
        refine cod_seq ?_
        refine cod_region ?_
        refine lst_move rfl rfl ?_
        refine lst_move rfl rfl ?_
        refine lst_move rfl rfl ?_
        refine lst_fn (X := List Nat × Nat × Nat × Option Addr × Nat) (vs := [_, _, _]) (p := fun y => ChS ags (p ||| 2 ^ m3) (f) y.1 y.2.1 y.2.2.1) (val := fun y => .tuple #[.slice y.2.2.2.1 y.1.length y.2.2.2.2, .int .i64 (y.2.1 : Int), .int .i64 (y.2.2.1 : Int)]) (rs := fun y => [.row 3 1 y.2.2.2.1 y.1.length y.2.2.2.2 (ints y.1)]) rfl rfl F.ent35 (fun a w ha => (Cheapest_s aA ac ags hok (f) (p ||| 2 ^ m3) (by omega) hlp w (row_reads ha (cells := Ag.cells) (size := 5) (e := 24) (c := ac) (n := ags.length) (fun _ => rfl) (InR.mem (A := aA)) rfl)).mono (fun e w' h => by obtain ⟨W, k, E, A', c', h1, h2, h3⟩ := h; exact ⟨(W, k, E, A', c'), h1, h2, h3⟩)) ?_
        rintro ⟨W3, k3, E3, wA3, wc3⟩ hc3
        dsimp only [List.cons_append, List.nil_append] at hc3 ⊢
        refine lst_move rfl rfl ?_
        refine lst_extract rfl rfl rfl ?_
        refine lst_extract rfl rfl rfl ?_
        refine lst_extract rfl rfl rfl ?_
        refine lst_assign rfl rfl ?_
        refine lst_assign rfl rfl ?_
        refine lst_assign rfl rfl ?_
        refine lst_nil ?_
        refine ex_then ?_
        refine cod_seq ?_
        rcases hc1.err with rfl | rfl
        · skip
          refine cod_region ?_
          obtain ⟨rfl, hk2⟩ := hc1.mono hsub hnp hc2
          obtain ⟨rfl, hk3⟩ := hc1.mono hsame hnl hc3
          refine lst_move rfl rfl ?_
          refine lst_int rfl rfl rfl bin_eql ?_
          refine lst_move rfl rfl ?_
          refine lst_on rfl rfl ?_
          refine lst_move rfl rfl ?_
          refine lst_on rfl rfl ?_
          refine lst_int rfl rfl rfl bin_neq ?_
          refine lst_on rfl rfl ?_
          refine lst_move rfl rfl ?_
          refine lst_on rfl rfl ?_
          refine lst_move rfl rfl ?_
          refine lst_on rfl rfl ?_
          refine lst_int rfl rfl rfl bin_neq ?_
          refine lst_on rfl rfl ?_
          refine lst_pick_false rfl rfl rfl ?_
          refine lst_on rfl rfl ?_
          refine lst_move rfl rfl ?_
          refine lst_on rfl rfl ?_
          refine lst_move rfl rfl ?_
          refine lst_on rfl rfl ?_
          refine lst_move rfl rfl ?_
          refine lst_on rfl rfl ?_
          refine lst_int (v := .bool false) rfl rfl rfl (fun w => by rw [bin_gtr, decide_eq_false (by omega)]) ?_
          refine lst_on rfl rfl ?_
          refine lst_pick_false rfl rfl rfl ?_
          refine lst_on rfl rfl ?_
          refine lst_move rfl rfl ?_
          refine lst_on rfl rfl ?_
          refine lst_move rfl rfl ?_
          refine lst_on rfl rfl ?_
          refine lst_move rfl rfl ?_
          refine lst_on rfl rfl ?_
          refine lst_int (v := .bool false) rfl rfl rfl (fun w => by rw [bin_gtr, decide_eq_false (by omega)]) ?_
          refine lst_on rfl rfl ?_
          refine lst_pick_false rfl rfl rfl ?_
          refine lst_pick_true rfl rfl rfl ?_
          refine lst_nil ?_
          refine ex_then ?_
          refine cod_cond_false rfl ?_
          refine cod_skip ?_
          refine ex_block_normal ?_
          refine ex_then ?_
          refine cod_region ?_
          refine lst_move rfl rfl ?_
          refine lst_int rfl rfl rfl (fun w => bin_add w (wrap_i64' _ (by omega) (by omega))) ?_
          refine lst_assign rfl rfl ?_
          refine lst_nil ?_
          refine ex_round' (f + 1) (by (try dsimp only); omega) (by (try dsimp only); omega) (by repeat (first | exact Sub.nil _ | refine Sub.cons rfl ?_)) (by repeat (first | exact Pck.nil _ | exact Pck.refl _ | (apply Pck.cons; focus ((repeat (first | exact Rem.here _ | apply Rem.there)); done)) | refine Pck.skip _ ?_))
        · skip
          refine cod_region ?_
          refine lst_move rfl rfl ?_
          refine lst_int rfl rfl rfl bin_eql ?_
          refine lst_move rfl rfl ?_
          refine lst_off rfl rfl rfl ?_
          refine lst_off rfl rfl rfl ?_
          refine lst_off rfl rfl rfl ?_
          refine lst_offu rfl rfl rfl ?_
          refine lst_offu rfl rfl rfl ?_
          refine lst_off rfl rfl rfl ?_
          refine lst_off rfl rfl rfl ?_
          refine lst_offu rfl rfl rfl ?_
          refine lst_offu rfl rfl rfl ?_
          refine lst_offu rfl rfl rfl ?_
          refine lst_off rfl rfl rfl ?_
          refine lst_off rfl rfl rfl ?_
          refine lst_offu rfl rfl rfl ?_
          refine lst_offu rfl rfl rfl ?_
          refine lst_offu rfl rfl rfl ?_
          refine lst_off rfl rfl rfl ?_
          refine lst_pick_false rfl rfl rfl ?_
          refine lst_nil ?_
          refine ex_then ?_
          refine cod_cond_false rfl ?_
          refine cod_skip ?_
          refine ex_block_normal ?_
          refine ex_then ?_
          refine cod_region ?_
          refine lst_move rfl rfl ?_
          refine lst_int rfl rfl rfl (fun w => bin_add w (wrap_i64' _ (by omega) (by omega))) ?_
          refine lst_assign rfl rfl ?_
          refine lst_nil ?_
          refine ex_round' (f + 1) (by (try dsimp only); omega) (by (try dsimp only); omega) (by repeat (first | exact Sub.nil _ | refine Sub.cons rfl ?_)) (by repeat (first | exact Pck.nil _ | exact Pck.refl _ | (apply Pck.cons; focus ((repeat (first | exact Rem.here _ | apply Rem.there)); done)) | refine Pck.skip _ ?_))
      · skip
        refine cod_exit ?_
        refine ex_then_exit ?_
        refine ex_then_exit ?_
        refine ex_block_exit ?_
        refine ex_then ?_
        refine cod_seq ?_
        refine cod_region ?_
        refine lst_fn0 (vs := []) rfl rfl F.ent21 (fun a w ha => fined_c w) ?_
        refine lst_assign rfl rfl ?_
        refine lst_nil ?_
        refine ex_then ?_
        refine cod_ret ?_
        exact ex_ret rfl (fun a w ha => res_one rfl rfl ha) (fun a w ha => ⟨rfl, ha.grown (List.nil_sublist _)⟩)

end Go.Proofs.YtofkhehcnfiopaaDoor.N
