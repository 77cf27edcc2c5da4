/- Parts of the walks of the laws on fining: Sx8, Shuf, F26, F27. -/
import Derived.Test.YtofkhehcnfiopaaDoorCMore
import Derived.Test.YtofkhehcnfiopaaDoorProg
namespace Go.Proofs.YtofkhehcnfiopaaDoor.N
open Go Go.RowKit Go.Proofs
variable {C : Ctx} {fr : List (Nat × Value)} {hp hp' : List Res} {ops : Array Oper} {Q : Exit → Act → World → Prop} {rest : List Oper} {d : Nat} {ty : TypeId} {pos : String} {after : Array Edge}
theorem splice_take {cur xs vs out : List Value} {o L : Nat} (hx : cur.take L = xs) (hL : xs.length = L) (hs : Splice xs o vs out) : (cur.take o ++ vs ++ cur.drop (o + vs.length)).take L = out ∧ out.length = L := by
  have hl := hs.len
  have hcl : L ≤ cur.length := by
    have := congrArg List.length hx
    rw [List.length_take] at this
    omega
  have e : out = xs.take o ++ vs ++ xs.drop (o + vs.length) := hs.eq
  constructor
  · rw [e, ← hx]
    apply List.ext_getElem?
    intro i
    simp only [List.getElem?_take, List.getElem?_append, List.length_append, List.length_take, List.getElem?_drop]
    by_cases h1 : i < L
    · by_cases h2 : i < o
      · have h3 : i < min o cur.length := by omega
        have h4 : i < min o cur.length + vs.length := by omega
        have h5 : i < min o (min L cur.length) := by omega
        have h6 : i < min o (min L cur.length) + vs.length := by omega
        simp [h1, h2, h3, h4, h5, h6]
      · have e1 : min o cur.length = o := by omega
        have e2 : min o (min L cur.length) = o := by omega
        rw [e1, e2]
        by_cases h3 : i < o + vs.length
        · simp [h1, h2, h3]
        · have h4 : o + vs.length + (i - (o + vs.length)) < L := by omega
          simp [h1, h3, h4]
    · have h2 : ¬ i < min o (min L cur.length) := by omega
      have h3 : ¬ i < min o (min L cur.length) + vs.length := by omega
      have h4 : ¬ o + vs.length + (i - (min o (min L cur.length) + vs.length)) < L := by omega
      simp only [if_neg h1, if_neg h3, if_neg h4]
  · rw [e]
    simp
    omega
/-- A store, of one cell or of several, into a slice that is owned. -/
theorem lst_store_row {x y : Operand} {t e g o size N c n m : Nat} {xs vs out : List Value} {v z : Value} (hx : ev fr x = some (.pointer (some ⟨g, o, none⟩))) (hy : ev fr y = some v) (hi : TI C.P t z n m) [hc : Cells v vs] (hn : vs.length = n) (hs : Splice xs o vs out)
    (hu : Upd (.row e size (some ⟨g, 0, none⟩) N c xs) (.row e size (some ⟨g, 0, none⟩) N c out) hp hp')
    (k : Lst C ops Q rest fr hp') : Lst C ops Q (⟨none, .store t x y, ty, pos, after, none⟩ :: rest) fr hp := by
  obtain ⟨i, hi, _, hsz, _⟩ := hi
  refine lst_skip (fun a w ha => ?_) k
  obtain ⟨hlen, hown⟩ := ha.own _ hu.mem
  rcases hown with ⟨h1, _⟩ | ⟨g', cap, cur, hv, hb, hg, hnc, hm, hsize, htake⟩
  · cases h1
  · simp only [Value.slice.injEq, Option.some.injEq, Addr.mk.injEq, and_true, true_and] at hv
    obtain ⟨rfl, rfl⟩ := hv
    obtain ⟨ht1, ht2⟩ := splice_take htake hlen hs
    have hl := hs.len
    have hcl : N * size ≤ c * size := Nat.mul_le_mul_right size hnc
    have hcs : cur.toList.length = cur.size := Array.length_toList
    have hspl0 : o + vs.length ≤ cur.toList.length := by rw [hcs, hsize]; exact Nat.le_trans hl (by rw [hlen]; exact hcl)
    have hspl : Splice cur.toList o vs (cur.toList.take o ++ vs ++ cur.toList.drop (o + vs.length)) := ⟨rfl, hspl0⟩
    obtain ⟨w', s1, s2, s3⟩ := splice_upd hspl (t := e) (b := g) (w := w) (by rw [Array.toArray_toList]; exact hg) hc.one C.P
    refine ⟨w', ?_, ha.turn hu s3 ⟨ht2, .inr ⟨g, c, _, rfl, hb, s2, hnc, hm, ?_, ?_⟩⟩ (fun k hk => .inl hk)⟩
    · simp [execOp, ha.eval hx, ha.eval hy, Instr.storeAt, Instr.sureAddr, storeVar, sizeOf, typeInfo, hi, hc.eq, hn, hsz, s1]
    · simp
      omega
    · rw [List.toList_toArray]
      exact ht1
end Go.Proofs.YtofkhehcnfiopaaDoor.N
namespace Go.Proofs.YtofkhehcnfiopaaDoor.N
open Go Go.RowKit Go.Proofs
theorem splice_ints {l : List Nat} {o y : Nat} (ho : o < l.length) : Splice (ints l) o [.int .i64 (y : Int)] (ints (l.set o y)) := ⟨by
  unfold ints
  rw [List.map_set, List.set_eq_take_append_cons_drop, if_pos (by rw [List.length_map]; exact ho), List.append_assoc]; rfl, by rw [ints_len]; exact ho⟩
/-- No number twice. -/
def Inj (n : Nat) (l : List Nat) : Prop := l.length = n ∧ (∀ (a x : Nat), l[a]? = some x → x < n) ∧ ∀ (a b x : Nat), l[a]? = some x → l[b]? = some x → a = b
theorem Inj.range (n : Nat) : Inj n (List.range n) := by
  refine ⟨List.length_range, fun a x h => ?_, fun a b x h h' => ?_⟩
  · have := List.mem_range.1 (List.mem_of_getElem? h)
    exact this
  · obtain ⟨h1, e1⟩ := List.getElem?_eq_some_iff.1 h
    obtain ⟨h2, e2⟩ := List.getElem?_eq_some_iff.1 h'
    simp at e1 e2
    omega
theorem Inj.swap {n : Nat} {l : List Nat} (h : Inj n l) {i j x y : Nat} (hx : l[i]? = some x) (hy : l[j]? = some y) : Inj n ((l.set i y).set j x) := by
  obtain ⟨h1, h2, h3⟩ := h
  obtain ⟨hi, _⟩ := List.getElem?_eq_some_iff.1 hx
  obtain ⟨hj, _⟩ := List.getElem?_eq_some_iff.1 hy
  have key : ∀ (a z : Nat), ((l.set i y).set j x)[a]? = some z → l[if a = j then i else if a = i then j else a]? = some z := by
    intro a z hz
    rw [List.getElem?_set, List.length_set] at hz
    by_cases e1 : j = a
    · subst e1
      rw [if_pos rfl, if_pos hj] at hz
      rw [if_pos rfl, hx]
      exact hz
    · rw [if_neg e1, List.getElem?_set] at hz
      rw [if_neg (fun e => e1 e.symm)]
      by_cases e2 : i = a
      · subst e2
        rw [if_pos rfl, if_pos hi] at hz
        rw [if_pos rfl, hy]
        exact hz
      · rw [if_neg e2] at hz
        rw [if_neg (fun e => e2 e.symm)]
        exact hz
  refine ⟨by simp [h1], fun a z hz => h2 _ z (key a z hz), fun a b z ha hb => ?_⟩
  have := h3 _ _ z (key a z ha) (key b z hb)
  clear key h2 h3 ha hb hx hy
  revert this
  repeat' split
  all_goals omega
theorem splice_ags {l : List Ag} {o : Nat} (ho : o < l.length) (x : Ag) : Splice (l.flatMap Ag.cells) (0 + o * 5) x.cells ((l.set o x).flatMap Ag.cells) := by
  have hlen := flatMap_len ag_len l
  refine ⟨?_, by rw [hlen, ag_len]; omega⟩
  rw [Nat.zero_add]
  have h : ∀ (l : List Ag) (o : Nat), o < l.length → (l.set o x).flatMap Ag.cells = (l.flatMap Ag.cells).take (o * 5) ++ x.cells ++ (l.flatMap Ag.cells).drop (o * 5 + x.cells.length) := by
    intro l
    induction l with
    | nil => intro o h; cases h
    | cons y l ih =>
      intro o h
      cases o with
      | zero => simp [Ag.cells]
      | succ o =>
        have := ih o (by simpa using h)
        rw [List.set_cons_succ, List.flatMap_cons, List.flatMap_cons, this]
        have hq : y.cells.length = 5 := rfl
        have e1 : (y.cells ++ l.flatMap Ag.cells).take ((o + 1) * 5) = y.cells ++ (l.flatMap Ag.cells).take (o * 5) := by
          rw [show (o + 1) * 5 = y.cells.length + o * 5 by omega, List.take_length_add_append]
        have e2 : (y.cells ++ l.flatMap Ag.cells).drop ((o + 1) * 5 + x.cells.length) = (l.flatMap Ag.cells).drop (o * 5 + x.cells.length) := by
          rw [show (o + 1) * 5 + x.cells.length = y.cells.length + (o * 5 + x.cells.length) by omega, List.drop_length_add_append]
        rw [e1, e2]
        simp only [List.append_assoc]
  exact h l o ho
/-! Agents under other numbers. -/
theorem set_mem {l : List Ag} {o : Nat} {x y : Ag} (h : y ∈ l.set o x) : y ∈ l ∨ y = x := List.mem_or_eq_of_mem_set h
def Same (al bs : List Ag) : Prop := ∀ x, x ∈ al ↔ x ∈ bs
theorem Same.sym {al bs : List Ag} (h : Same al bs) : Same bs al := fun x => (h x).symm
theorem Same.clr {al bs : List Ag} (h : Same al bs) {p f : Nat} : Clr al (usedAll al.length) p f ↔ Clr bs (usedAll bs.length) p f :=
  ⟨Clr.mono (fun x hx => us_all.2 ((h x).1 (us_all.1 hx))) (fun _ h => h), Clr.mono (fun x hx => us_all.2 ((h x).2 (us_all.1 hx))) (fun _ h => h)⟩
theorem Same.wy {al bs : List Ag} (h : Same al bs) {p f c k : Nat} (hw : Wy al (usedAll al.length) p f c k) : Wy bs (usedAll bs.length) p f c k := hw.mono (fun x hx => us_all.2 ((h x).1 (us_all.1 hx))) (fun _ h => h)
theorem Same.short {al bs : List Ag} (h : Same al bs) {p f E E' : Nat} {W W' : List Nat} (h1 : ShS al p f W E) (h2 : ShS bs p f W' E') : E = E' ∧ W.length = W'.length := by
  by_cases hc : Clr al (usedAll al.length) p f
  · have e1 := h1.zero hc
    have e2 := h2.zero (h.clr.1 hc)
    obtain ⟨_, ⟨c1, w1⟩, m1⟩ := h1.yes e1
    obtain ⟨_, ⟨c2, w2⟩, m2⟩ := h2.yes e2
    exact ⟨by omega, Nat.le_antisymm (m1 _ _ (h.sym.wy w2)) (m2 _ _ (h.wy w1))⟩
  · have e1 := h1.no (fun e => hc (h1.iff.1 e))
    have e2 := h2.no (fun e => hc (h.clr.2 (h2.iff.1 e)))
    rw [e1.1, e2.1, e1.2.2, e2.2.2]
    exact ⟨rfl, rfl⟩
theorem Same.cheap {al bs : List Ag} (h : Same al bs) {p f c c' E E' : Nat} {W W' : List Nat} (h1 : ChS al p f W c E) (h2 : ChS bs p f W' c' E') : E = E' ∧ c = c' := by
  by_cases e1 : E = 0
  · have w1 := (h1.yes e1).1
    by_cases e2 : E' = 0
    · have w2 := (h2.yes e2).1
      have l1 := w1.2 _ _ (h.sym.wy w2.1)
      have l2 := w2.2 _ _ (h.wy w1.1)
      unfold lexle at l1 l2
      omega
    · exact absurd (h.wy w1.1) ((h2.no e2).2.2.2 _ _)
  · by_cases e2 : E' = 0
    · exact absurd (h.sym.wy (h2.yes e2).1.1) ((h1.no e1).2.2.2 _ _)
    · obtain ⟨a1, a2, _⟩ := h1.no e1
      obtain ⟨b1, b2, _⟩ := h2.no e2
      omega
theorem Same.hope {al bs : List Ag} (h : Same al bs) {p : Nat} : hopeL al p = hopeL bs p := fltP_congr fun _ _ => not_congr h.clr
theorem Same.found {al bs : List Ag} (h : Same al bs) {p f : Nat} {o o' : Option Wk} (h1 : FoundO al (usedAll al.length) 1 (-1) (f, 0, 0) (fun t => decide (nn t.1 p = 0)) o) (h2 : FoundO bs (usedAll bs.length) 1 (-1) (f, 0, 0) (fun t => decide (nn t.1 p = 0)) o') : o.isSome = o'.isSome ∧ (wayO o).how.length = (wayO o').how.length := by
  obtain ⟨a1, a2, a3⟩ := short_spec h1
  obtain ⟨b1, b2, b3⟩ := short_spec h2
  have hi : o.isSome = true ↔ o'.isSome = true := a1.trans (h.clr.trans b1.symm)
  cases o with
  | none =>
    cases o' with
    | none => exact ⟨rfl, rfl⟩
    | some k => exact absurd (hi.2 rfl) (by simp)
  | some k =>
    cases o' with
    | none => exact absurd (hi.1 rfl) (by simp)
    | some k' =>
      refine ⟨rfl, ?_⟩
      obtain ⟨c1, w1⟩ := a2.resolve_right (by simp)
      obtain ⟨c2, w2⟩ := b2.resolve_right (by simp)
      exact Nat.le_antisymm ((a3.resolve_left (by simp)) _ _ (h.sym.wy w2)) ((b3.resolve_left (by simp)) _ _ (h.wy w1))
theorem far_eq {os os' : Nat → Option Wk} : ∀ k, (∀ f, f < k → (os f).isSome = (os' f).isSome ∧ (wayO (os f)).how.length = (wayO (os' f)).how.length) → farL os k = farL os' k
  | 0, _ => rfl
  | k + 1, h => by
    have ih := far_eq k (fun f hf => h f (by omega))
    obtain ⟨h1, h2⟩ := h k (by omega)
    unfold farL
    rw [ih, h1, h2]
/-- What is known while agents get other numbers. -/
structure Ren (al os : List Ag) (l : List Nat) (i : Nat) : Prop where
  len : os.length = al.length
  sub : ∀ x ∈ os, x ∈ al
  done : ∀ (j q : Nat), j < i → l[j]? = some q → os[q]? = al[j]?
theorem Ren.zero (al : List Ag) (l : List Nat) : Ren al al l 0 := ⟨rfl, fun _ h => h, fun _ _ h => absurd h (by omega)⟩
theorem Ren.step {al os : List Ag} {l : List Nat} {i q : Nat} {x : Ag} (h : Ren al os l i) (hl : Inj al.length l) (hq : l[i]? = some q) (hx : al[i]? = some x) : Ren al (os.set q x) l (i + 1) := by
  have hql := hl.2.1 _ _ hq
  refine ⟨by rw [List.length_set]; exact h.len, fun y hy => ?_, fun j r hj hr => ?_⟩
  · rcases set_mem hy with h1 | h1
    · exact h.sub y h1
    · rw [h1]; exact List.mem_of_getElem? hx
  · rw [List.getElem?_set]
    by_cases e : q = r
    · subst e
      obtain rfl := hl.2.2 _ _ _ hq hr
      rw [if_pos rfl, if_pos (by rw [h.len]; exact hql), hx]
    · rw [if_neg e]
      have : j ≠ i := fun e' => by subst e'; rw [hq] at hr; exact e (Option.some.inj hr)
      exact h.done j r (by omega) hr
theorem Ren.same {al os : List Ag} {l : List Nat} (h : Ren al os l al.length) (hl : Inj al.length l) : Same al os := by
  intro x
  constructor
  · intro hx
    obtain ⟨j, hj, rfl⟩ := List.getElem_of_mem hx
    have hjl : j < l.length := by rw [hl.1]; exact hj
    have := h.done j _ hj (List.getElem?_eq_getElem hjl)
    rw [List.getElem?_eq_getElem hj] at this
    exact List.mem_of_getElem? this
  · exact h.sub x
end Go.Proofs.YtofkhehcnfiopaaDoor.N
namespace Go.Proofs.YtofkhehcnfiopaaDoor.N
open Go Go.RowKit Go.Proofs

theorem Shuffle_c {C : Ctx} {fr : List (Nat × Value)} {T : List Res} {a : Act} {w : World} (hC : C.P = Tryd.prog) {hb tk st nc : Nat} {nA : Option Addr} {nums : List Int} (hB : C.w0.heap.size = C.B) (hN : RdL icell 1 C.w0 nA nums) (htk : tk ≤ 900000) (hst : st < 18446744073709551616) {n : Nat} (hn : n ≤ 20) (ha : At C fr (.blk hb (hatO nA nums.length nc (tk) (st)) :: T) a w) : Calls C.P 52 #[.pointer (some ⟨hb, 0, none⟩), .int .i64 (n : Int)] w fun e w' => ∃ (tk' st' : Nat) (l : List Nat) (A : Option Addr) (c : Nat), tk' ≤ tk + n ∧ st' < 18446744073709551616 ∧ Inj n l ∧ e = .returned (.slice A n c) ∧ At C fr (.row 3 1 A n c (ints l) :: .blk hb (hatO nA nums.length nc (tk') (st')) :: T) a w' := by
  obtain ⟨P, B, w0, N0, ds⟩ := C
  obtain rfl : P = Tryd.prog := hC
  (try dsimp only at hB)
  (try dsimp only at hN)
  refine enter_in (N := 42) [(0, .pointer (some ⟨hb, 0, none⟩)), (1, .int .i64 (n : Int))] ha Tryd.func52 rfl Tryd.ntmps52 rfl rfl ?_
  refine cod_seq ?_
  refine cod_region ?_
  refine lst_assign rfl rfl ?_
  refine lst_nil ?_
  refine ex_then ?_
  refine cod_seq ?_
  refine cod_region ?_
  refine lst_assign rfl rfl ?_
  refine lst_nil ?_
  refine ex_then ?_
  refine cod_seq ?_
  refine cod_seq ?_
  refine cod_region ?_
  refine lst_assign rfl rfl ?_
  refine lst_nil ?_
  refine ex_then ?_
  refine cod_block ?_
  refine cod_nil 3 1 ?_
  refine cod_loop' (G := Nat × Option Addr × Nat) (fun g => g.1 ≤ n) (fun g => n - g.1) (fun g => [(0, .pointer (some ⟨hb, 0, none⟩)), (1, .int .i64 (n : Int)), (5, .slice g.2.1 g.1 g.2.2), (6, .int .i64 (g.1 : Int))]) (fun g => .row 3 1 g.2.1 g.1 g.2.2 (ints (List.range g.1)) :: .blk hb (hatO nA nums.length nc (tk) (st)) :: T) (0, none, 0) (Nat.zero_le _) (by repeat (first | exact Sub.nil _ | refine Sub.cons rfl ?_)) (by repeat (first | exact Pck.nil _ | exact Pck.refl _ | (apply Pck.cons; focus ((repeat (first | exact Rem.here _ | apply Rem.there)); done)) | refine Pck.skip _ ?_)) ?_
  rintro ⟨k, A1, c1⟩ hk
  dsimp only at hk ⊢
  refine cod_seq ?_
  refine cod_seq ?_
  refine cod_region ?_
  refine lst_move rfl rfl ?_
  refine lst_move rfl rfl ?_
  refine lst_int rfl rfl rfl bin_lss ?_
  refine lst_nil ?_
  refine ex_then ?_
  refine cod_cond_dec rfl (fun hc0 => ?_) (fun hc0 => ?_)
  · skip
    refine cod_skip ?_
    refine ex_then ?_
    refine cod_seq ?_
    refine cod_block ?_
    refine cod_region ?_
    refine lst_move rfl rfl ?_
    refine lst_move rfl rfl ?_
    refine lst_lit (vs := [(0, _)]) rfl rfl Tryd.underlying25 F.ti3 rfl rfl rfl ?_
    intro b16
    refine lst_append rfl rfl rfl Tryd.underlying25 F.ti3 rfl rfl rfl (by unfold maxLen; omega) (by omega) ?_
    intro A2 c2
    refine lst_assign rfl rfl ?_
    refine lst_nil ?_
    refine ex_block_normal ?_
    refine ex_then ?_
    refine cod_region ?_
    refine lst_move rfl rfl ?_
    refine lst_int rfl rfl rfl (fun w => bin_add w (wrap_i64' _ (by omega) (by omega))) ?_
    refine lst_assign rfl rfl ?_
    refine lst_nil ?_
    have e := List.range_succ (n := k)
    refine ex_round' (k + 1, A2, c2) (by (try dsimp only); omega) (by (try dsimp only); omega) (by (try dsimp only); repeat (first | exact Sub.nil _ | refine Sub.cons rfl ?_)) (by (try dsimp only); rw [e, ints_snoc]; repeat (first | exact Pck.nil _ | exact Pck.refl _ | (apply Pck.cons; focus ((repeat (first | exact Rem.here _ | apply Rem.there)); done)) | refine Pck.skip _ ?_))
  · skip
    obtain rfl : k = n := by omega
    refine cod_exit ?_
    refine ex_then_exit ?_
    refine ex_then_exit ?_
    refine ex_block_exit ?_
    refine ex_then ?_
    refine cod_seq ?_
    refine cod_seq ?_
    refine cod_region ?_
    refine lst_move rfl rfl ?_
    refine lst_int rfl rfl rfl (fun w => bin_sub w (wrap_i64' ((k : Int) - 1) (by omega) (by omega))) ?_
    refine lst_assign rfl rfl ?_
    refine lst_nil ?_
    refine ex_then ?_
    refine cod_block ?_
    have hR := Inj.range k
    refine cod_loop' (G := Nat × Nat × Nat × List Nat) (fun g => g.1 ≤ k ∧ g.2.1 + g.1 ≤ tk + k ∧ g.2.2.1 < 18446744073709551616 ∧ Inj k g.2.2.2) (fun g => g.1) (fun g => [(0, .pointer (some ⟨hb, 0, none⟩)), (1, .int .i64 (k : Int)), (5, .slice A1 k c1), (7, .int .i64 ((g.1 : Int) - 1))]) (fun g => .row 3 1 A1 k c1 (ints g.2.2.2) :: .blk hb (hatO nA nums.length nc (g.2.1) (g.2.2.1)) :: T) (k, tk, st, List.range k) ⟨Nat.le_refl _, by (try dsimp only); omega, hst, hR⟩ (by repeat (first | exact Sub.nil _ | refine Sub.cons rfl ?_)) (by repeat (first | exact Pck.nil _ | exact Pck.refl _ | (apply Pck.cons; focus ((repeat (first | exact Rem.here _ | apply Rem.there)); done)) | refine Pck.skip _ ?_)) ?_
    rintro ⟨m, t1, s1, l⟩ ⟨hmk, ht1, hs1, hI⟩
    dsimp only at hmk ht1 hs1 hI ⊢
    refine cod_seq ?_
    refine cod_seq ?_
    refine cod_region ?_
    refine lst_move rfl rfl ?_
    refine lst_int rfl rfl rfl bin_gtr ?_
    refine lst_nil ?_
    refine ex_then ?_
    refine cod_cond_dec rfl (fun hc1 => ?_) (fun hc1 => ?_)
    · skip
      have hm2 : 2 ≤ m := by omega
      have hll := hI.1
      refine cod_skip ?_
      refine ex_then ?_
      refine cod_seq ?_
      refine cod_block ?_
      refine cod_seq ?_
      refine cod_region ?_
      refine lst_move rfl rfl ?_
      refine lst_move rfl rfl ?_
      refine lst_call_pul (X := Nat × Nat) (vs := [_, _]) hb (fun y => hatO nA nums.length nc (t1 + 1) (y.1)) (fun y => y.1 < 18446744073709551616 ∧ y.2 ≤ ((m : Int) - 1 : Int).toNat) (fun y => .int .i64 (y.2 : Int)) rfl rfl F.ent25 (fun a w ha => (To_c (C := ⟨Tryd.prog, B, w0, _, _⟩) rfl hB hN (tk := t1) (st := s1) (n := (m : Int) - 1) (by omega) hs1 (by omega) ha).mono (fun e w' h => by obtain ⟨s', x, h1, h2, h3, h4⟩ := h; exact ⟨(s', x), ⟨h1, h2⟩, h3, h4⟩)) ?_
      rintro ⟨s2, x1⟩ ⟨hs2, hx1⟩
      dsimp only at hs2 hx1 ⊢
      refine lst_know (φ := ∃ g, A1 = some ⟨g, 0, none⟩) (fun a w ha => row_some (ha.own _ (InR.mem (A := A1))) (by omega)) (fun hgL => ?_)
      obtain ⟨gL, rfl⟩ := hgL
      have hx1m : x1 < m := by omega
      obtain ⟨y, hy⟩ : ∃ y, l[x1]? = some y := ⟨_, List.getElem?_eq_getElem (by omega)⟩
      obtain ⟨z, hz⟩ : ∃ z, l[m - 1]? = some z := ⟨_, List.getElem?_eq_getElem (by omega)⟩
      refine lst_assign rfl rfl ?_
      refine lst_nil ?_
      refine ex_then ?_
      refine any_begin [.r (some ⟨gL, 0, none⟩)] F.follows 16 rfl [false, false, false, false, false, false, false, false, false, false, false, false, false, false, false, false] rfl ?_
      refine any_take (listed' := [true, false, false, false, false, false, false, false, false, false, false, false, false, false, false, false].toArray) 0 rfl rfl rfl (by kernel_rfl) (by kernel_rfl) (by kernel_rfl) (by repeat (first | exact List.Sublist.refl _ | exact List.nil_sublist _ | refine List.Sublist.cons_cons _ ?_ | refine List.Sublist.cons _ ?_)) (yld_move rfl) rfl ?_
      refine any_take (listed' := [true, true, false, false, false, false, false, false, false, false, false, false, false, false, false, false].toArray) 1 rfl rfl rfl (by kernel_rfl) (by kernel_rfl) (by kernel_rfl) (by repeat (first | exact List.Sublist.refl _ | exact List.nil_sublist _ | refine List.Sublist.cons_cons _ ?_ | refine List.Sublist.cons _ ?_)) (yld_move rfl) rfl ?_
      refine any_take (listed' := [true, true, true, false, false, false, false, false, false, false, false, false, false, false, false, false].toArray) 2 rfl rfl rfl (by kernel_rfl) (by kernel_rfl) (by kernel_rfl) (by repeat (first | exact List.Sublist.refl _ | exact List.nil_sublist _ | refine List.Sublist.cons_cons _ ?_ | refine List.Sublist.cons _ ?_)) (yld_move rfl) rfl ?_
      refine any_take (listed' := [true, true, true, true, false, false, false, false, false, false, false, false, false, false, false, false].toArray) 3 rfl rfl rfl (by kernel_rfl) (by kernel_rfl) (by kernel_rfl) (by repeat (first | exact List.Sublist.refl _ | exact List.nil_sublist _ | refine List.Sublist.cons_cons _ ?_ | refine List.Sublist.cons _ ?_)) (yld_move rfl) rfl ?_
      refine any_take (listed' := [true, true, true, true, true, false, false, false, false, false, false, false, false, false, false, false].toArray) 4 rfl rfl rfl (by kernel_rfl) (by kernel_rfl) (by kernel_rfl) (by repeat (first | exact List.Sublist.refl _ | exact List.nil_sublist _ | refine List.Sublist.cons_cons _ ?_ | refine List.Sublist.cons _ ?_)) (yld_move rfl) rfl ?_
      refine any_take (listed' := [true, true, true, true, true, true, false, false, false, false, false, false, false, false, false, false].toArray) 5 rfl rfl rfl (by kernel_rfl) (by kernel_rfl) (by kernel_rfl) (by repeat (first | exact List.Sublist.refl _ | exact List.nil_sublist _ | refine List.Sublist.cons_cons _ ?_ | refine List.Sublist.cons _ ?_)) (yld_move rfl) rfl ?_
      refine any_take (listed' := [true, true, true, true, true, true, true, false, false, false, false, false, false, false, false, false].toArray) 6 rfl rfl rfl (by kernel_rfl) (by kernel_rfl) (by kernel_rfl) (by repeat (first | exact List.Sublist.refl _ | exact List.nil_sublist _ | refine List.Sublist.cons_cons _ ?_ | refine List.Sublist.cons _ ?_)) (yld_index (j := x1) rfl rfl Tryd.underlying25 F.ti3 (by omega) (by omega)) rfl ?_
      refine any_take (listed' := [true, true, true, true, true, true, true, false, true, false, false, false, false, false, false, false].toArray) 8 rfl rfl rfl (by kernel_rfl) (by kernel_rfl) (by kernel_rfl) (by repeat (first | exact List.Sublist.refl _ | exact List.nil_sublist _ | refine List.Sublist.cons_cons _ ?_ | refine List.Sublist.cons _ ?_)) (yld_move rfl) rfl ?_
      refine any_take (listed' := [true, true, true, true, true, true, true, false, true, true, false, false, false, false, false, false].toArray) 9 rfl rfl rfl (by kernel_rfl) (by kernel_rfl) (by kernel_rfl) (by repeat (first | exact List.Sublist.refl _ | exact List.nil_sublist _ | refine List.Sublist.cons_cons _ ?_ | refine List.Sublist.cons _ ?_)) (yld_move rfl) rfl ?_
      refine any_take (listed' := [true, true, true, true, true, true, true, false, true, true, true, false, false, false, false, false].toArray) 10 rfl rfl rfl (by kernel_rfl) (by kernel_rfl) (by kernel_rfl) (by repeat (first | exact List.Sublist.refl _ | exact List.nil_sublist _ | refine List.Sublist.cons_cons _ ?_ | refine List.Sublist.cons _ ?_)) (yld_index (j := m - 1) rfl rfl Tryd.underlying25 F.ti3 (by omega) (by omega)) rfl ?_
      refine any_two (l1 := [true, true, true, true, true, true, true, true, true, true, true, false, false, false, false, false].toArray) (l2 := [true, true, true, true, true, true, true, false, true, true, true, true, false, false, false, false].toArray) 7 11 (by kernel_rfl) rfl rfl rfl rfl ?_ ?_
      · skip
        refine lst_load_at (v := .int .i64 (y : Int)) rfl rfl F.one3 (fun a w ha => row_cell ha (InR.mem (A := (some ⟨gL, 0, none⟩))) rfl (by rw [Nat.zero_add]; exact ints_get hy)) ?_
        refine lst_nil ?_
        refine any_next (by repeat (first | exact List.Sublist.refl _ | exact List.nil_sublist _ | refine List.Sublist.cons_cons _ ?_ | refine List.Sublist.cons _ ?_)) ?_
        refine any_one (listed' := [true, true, true, true, true, true, true, true, true, true, true, true, false, false, false, false].toArray) 11 (by kernel_rfl) rfl rfl ?_
        refine lst_load_at (v := .int .i64 (z : Int)) rfl rfl F.one3 (fun a w ha => row_cell ha (InR.mem (A := (some ⟨gL, 0, none⟩))) rfl (by rw [Nat.zero_add]; exact ints_get hz)) ?_
        refine lst_nil ?_
        refine any_next (by repeat (first | exact List.Sublist.refl _ | exact List.nil_sublist _ | refine List.Sublist.cons_cons _ ?_ | refine List.Sublist.cons _ ?_)) ?_
        refine any_take (listed' := [true, true, true, true, true, true, true, true, true, true, true, true, true, false, false, false].toArray) 12 rfl rfl rfl (by kernel_rfl) (by kernel_rfl) (by kernel_rfl) (by repeat (first | exact List.Sublist.refl _ | exact List.nil_sublist _ | refine List.Sublist.cons_cons _ ?_ | refine List.Sublist.cons _ ?_)) (yld_index (j := m - 1) rfl rfl Tryd.underlying25 F.ti3 (by omega) (by omega)) rfl ?_
        refine any_one (listed' := [true, true, true, true, true, true, true, true, true, true, true, true, true, true, false, false].toArray) 13 (by kernel_rfl) rfl rfl ?_
        refine lst_store_row (N := k) (xs := ints l) (out := ints (l.set (m - 1) y)) rfl rfl F.ti3 rfl (by rw [Nat.zero_add, Nat.mul_one]; exact splice_ints (by omega)) (by repeat (first | exact Upd.head _ | apply Upd.tail)) ?_
        refine lst_nil ?_
        refine any_next (by repeat (first | exact List.Sublist.refl _ | exact List.nil_sublist _ | refine List.Sublist.cons_cons _ ?_ | refine List.Sublist.cons _ ?_)) ?_
        refine any_take (listed' := [true, true, true, true, true, true, true, true, true, true, true, true, true, true, true, false].toArray) 14 rfl rfl rfl (by kernel_rfl) (by kernel_rfl) (by kernel_rfl) (by repeat (first | exact List.Sublist.refl _ | exact List.nil_sublist _ | refine List.Sublist.cons_cons _ ?_ | refine List.Sublist.cons _ ?_)) (yld_index (j := x1) rfl rfl Tryd.underlying25 F.ti3 (by omega) (by omega)) rfl ?_
        refine any_one (listed' := [true, true, true, true, true, true, true, true, true, true, true, true, true, true, true, true].toArray) 15 (by kernel_rfl) rfl rfl ?_
        refine lst_store_row (N := k) (xs := ints (l.set (m - 1) y)) (out := ints ((l.set (m - 1) y).set x1 z)) rfl rfl F.ti3 rfl (by rw [Nat.zero_add, Nat.mul_one]; exact splice_ints (by rw [List.length_set]; omega)) (by repeat (first | exact Upd.head _ | apply Upd.tail)) ?_
        refine lst_nil ?_
        refine any_next (by repeat (first | exact List.Sublist.refl _ | exact List.nil_sublist _ | refine List.Sublist.cons_cons _ ?_ | refine List.Sublist.cons _ ?_)) ?_
        refine any_done rfl (by kernel_rfl) ?_
        refine ex_block_normal ?_
        refine ex_then ?_
        refine cod_region ?_
        refine lst_move rfl rfl ?_
        refine lst_int rfl rfl rfl (fun w => bin_sub w (show IntKind.i64.wrap (((m : Int) - 1) - 1) = ((m - 1 : Nat) : Int) - 1 from by rw [wrap_i64' _ (by omega) (by omega)]; omega)) ?_
        refine lst_assign rfl rfl ?_
        refine lst_nil ?_
        refine ex_round' (m - 1, t1 + 1, s2, (l.set (m - 1) y).set x1 z) ⟨by omega, by (try dsimp only); omega, hs2, hI.swap hz hy⟩ (by (try dsimp only); omega) (by repeat (first | exact Sub.nil _ | refine Sub.cons rfl ?_)) (by repeat (first | exact Pck.nil _ | exact Pck.refl _ | (apply Pck.cons; focus ((repeat (first | exact Rem.here _ | apply Rem.there)); done)) | refine Pck.skip _ ?_))
      · skip
        refine lst_load_at (v := .int .i64 (z : Int)) rfl rfl F.one3 (fun a w ha => row_cell ha (InR.mem (A := (some ⟨gL, 0, none⟩))) rfl (by rw [Nat.zero_add]; exact ints_get hz)) ?_
        refine lst_nil ?_
        refine any_next (by repeat (first | exact List.Sublist.refl _ | exact List.nil_sublist _ | refine List.Sublist.cons_cons _ ?_ | refine List.Sublist.cons _ ?_)) ?_
        refine any_one (listed' := [true, true, true, true, true, true, true, true, true, true, true, true, false, false, false, false].toArray) 7 (by kernel_rfl) rfl rfl ?_
        refine lst_load_at (v := .int .i64 (y : Int)) rfl rfl F.one3 (fun a w ha => row_cell ha (InR.mem (A := (some ⟨gL, 0, none⟩))) rfl (by rw [Nat.zero_add]; exact ints_get hy)) ?_
        refine lst_nil ?_
        refine any_next (by repeat (first | exact List.Sublist.refl _ | exact List.nil_sublist _ | refine List.Sublist.cons_cons _ ?_ | refine List.Sublist.cons _ ?_)) ?_
        refine any_take (listed' := [true, true, true, true, true, true, true, true, true, true, true, true, true, false, false, false].toArray) 12 rfl rfl rfl (by kernel_rfl) (by kernel_rfl) (by kernel_rfl) (by repeat (first | exact List.Sublist.refl _ | exact List.nil_sublist _ | refine List.Sublist.cons_cons _ ?_ | refine List.Sublist.cons _ ?_)) (yld_index (j := m - 1) rfl rfl Tryd.underlying25 F.ti3 (by omega) (by omega)) rfl ?_
        refine any_one (listed' := [true, true, true, true, true, true, true, true, true, true, true, true, true, true, false, false].toArray) 13 (by kernel_rfl) rfl rfl ?_
        refine lst_store_row (N := k) (xs := ints l) (out := ints (l.set (m - 1) y)) rfl rfl F.ti3 rfl (by rw [Nat.zero_add, Nat.mul_one]; exact splice_ints (by omega)) (by repeat (first | exact Upd.head _ | apply Upd.tail)) ?_
        refine lst_nil ?_
        refine any_next (by repeat (first | exact List.Sublist.refl _ | exact List.nil_sublist _ | refine List.Sublist.cons_cons _ ?_ | refine List.Sublist.cons _ ?_)) ?_
        refine any_take (listed' := [true, true, true, true, true, true, true, true, true, true, true, true, true, true, true, false].toArray) 14 rfl rfl rfl (by kernel_rfl) (by kernel_rfl) (by kernel_rfl) (by repeat (first | exact List.Sublist.refl _ | exact List.nil_sublist _ | refine List.Sublist.cons_cons _ ?_ | refine List.Sublist.cons _ ?_)) (yld_index (j := x1) rfl rfl Tryd.underlying25 F.ti3 (by omega) (by omega)) rfl ?_
        refine any_one (listed' := [true, true, true, true, true, true, true, true, true, true, true, true, true, true, true, true].toArray) 15 (by kernel_rfl) rfl rfl ?_
        refine lst_store_row (N := k) (xs := ints (l.set (m - 1) y)) (out := ints ((l.set (m - 1) y).set x1 z)) rfl rfl F.ti3 rfl (by rw [Nat.zero_add, Nat.mul_one]; exact splice_ints (by rw [List.length_set]; omega)) (by repeat (first | exact Upd.head _ | apply Upd.tail)) ?_
        refine lst_nil ?_
        refine any_next (by repeat (first | exact List.Sublist.refl _ | exact List.nil_sublist _ | refine List.Sublist.cons_cons _ ?_ | refine List.Sublist.cons _ ?_)) ?_
        refine any_done rfl (by kernel_rfl) ?_
        refine ex_block_normal ?_
        refine ex_then ?_
        refine cod_region ?_
        refine lst_move rfl rfl ?_
        refine lst_int rfl rfl rfl (fun w => bin_sub w (show IntKind.i64.wrap (((m : Int) - 1) - 1) = ((m - 1 : Nat) : Int) - 1 from by rw [wrap_i64' _ (by omega) (by omega)]; omega)) ?_
        refine lst_assign rfl rfl ?_
        refine lst_nil ?_
        refine ex_round' (m - 1, t1 + 1, s2, (l.set (m - 1) y).set x1 z) ⟨by omega, by (try dsimp only); omega, hs2, hI.swap hz hy⟩ (by (try dsimp only); omega) (by repeat (first | exact Sub.nil _ | refine Sub.cons rfl ?_)) (by repeat (first | exact Pck.nil _ | exact Pck.refl _ | (apply Pck.cons; focus ((repeat (first | exact Rem.here _ | apply Rem.there)); done)) | refine Pck.skip _ ?_))
    · skip
      refine cod_exit ?_
      refine ex_then_exit ?_
      refine ex_then_exit ?_
      refine ex_block_exit ?_
      refine ex_then ?_
      refine cod_seq ?_
      refine cod_region ?_
      refine lst_move rfl rfl ?_
      refine lst_assign rfl rfl ?_
      refine lst_nil ?_
      refine ex_then ?_
      refine cod_ret ?_
      exact ex_ret rfl (fun a w ha => res_one rfl rfl ha) (fun _ _ ha' => ⟨t1, s1, l, A1, c1, by omega, hs1, hI, rfl, ha.back (ha'.pck (by repeat (first | exact Pck.nil _ | exact Pck.refl _ | (apply Pck.cons; focus ((repeat (first | exact Rem.here _ | apply Rem.there)); done)) | refine Pck.skip _ ?_)))⟩)

end Go.Proofs.YtofkhehcnfiopaaDoor.N
namespace Go.Proofs.YtofkhehcnfiopaaDoor.N
open Go Go.RowKit Go.Proofs
theorem F.ent52 : Enters Tryd.prog 52 := enters_of Tryd.func52 rfl (by kernel_rfl)
theorem FiningNumbered_c (nA : Option Addr) (nc : Nat) (nums : List Int) (w : World) (hN : RdL icell 1 w nA nums) : Calls Tryd.prog 10 #[.slice nA nums.length nc] w fun e w' => e = .returned (.bool true) ∧ Grew w w' [] := by
  refine enter (N := 162) [(0, .slice nA nums.length nc)] Tryd.func10 rfl Tryd.ntmps10 rfl rfl ?_
  refine cod_seq ?_
  refine cod_region ?_
  refine lst_assign rfl rfl ?_
  refine lst_nil ?_
  refine ex_then ?_
  refine cod_seq ?_
  refine cod_region ?_
  refine lst_move rfl rfl ?_
  refine lst_fn (X := Nat) (vs := [_]) (p := fun _ => True) (val := fun b => .pointer (some ⟨b, 0, none⟩)) (rs := fun b => [.blk b (hatO nA nums.length nc 0 11400714819323198485)]) rfl rfl F.ent22 (fun a w ha => (NewHat_c nA nums.length nc w).mono (fun e w' h => by obtain ⟨b, h1, h2⟩ := h; exact ⟨b, trivial, h1, h2⟩)) ?_
  intro hb _
  dsimp only [List.cons_append, List.nil_append]
  refine lst_assign rfl rfl ?_
  refine lst_nil ?_
  refine ex_then ?_
  refine cod_seq ?_
  refine cod_region ?_
  refine lst_move rfl rfl ?_
  refine lst_call (X := Nat × Nat × List Ag × Option Addr × Nat) (first := []) (cap := []) (vs := [_, _, _]) (p := fun y => y.1 ≤ 200 ∧ y.2.1 < 18446744073709551616 ∧ y.2.2.1.length ≤ 4 ∧ ∀ x ∈ y.2.2.1, x.ok) (val := fun y => .slice y.2.2.2.1 y.2.2.1.length y.2.2.2.2) (rs := fun y => .row 24 5 y.2.2.2.1 y.2.2.1.length y.2.2.2.2 (y.2.2.1.flatMap Ag.cells) :: .blk hb (hatO nA nums.length nc y.1 y.2.1) :: []) rfl rfl rfl F.ent34 (fun a w ha => (AgentsOf_c (C := ⟨Tryd.prog, _, _, _, _⟩) (T := []) (tk := 0) (many := 4) (few := 4) rfl rfl hN (by omega) (by omega) (by omega) (by omega) (by omega) ha).mono (fun e w' h => by obtain ⟨t', s', l, A', c', h1, h2, h3, h4, h5, h6⟩ := h; exact ⟨(t', s', l, A', c'), ⟨by omega, h2, h3, h4⟩, h5, h6⟩)) ?_
  rintro ⟨t1, s1, ags, aA, ac⟩ ⟨ht1, hs1, hagl, hago⟩
  dsimp only at ht1 hs1 hagl hago ⊢
  have hok : Oks ags := ⟨by omega, hago⟩
  refine lst_move rfl rfl ?_
  refine lst_call_pul (X := Nat × Nat) (vs := [_, _]) hb (fun y => hatO nA nums.length nc (t1 + 1) (y.1)) (fun y => y.1 < 18446744073709551616 ∧ y.2 ≤ (15 : Int).toNat) (fun y => .int .i64 (y.2 : Int)) rfl rfl F.ent25 (fun a w ha => (To_c (C := ⟨Tryd.prog, _, _, _, _⟩) rfl rfl hN (tk := t1) (st := s1) (n := 15) (by omega) hs1 (by omega) ha).mono (fun e w' h => by obtain ⟨s', x, h1, h2, h3, h4⟩ := h; exact ⟨(s', x), ⟨h1, h2⟩, h3, h4⟩)) ?_
  rintro ⟨s2, m1⟩ ⟨hs2, hm1⟩
  dsimp only at hs2 hm1 ⊢
  have hlm1 : m1 ≤ 15 := by omega
  refine lst_move rfl rfl ?_
  refine lst_call_pul (X := Nat × Nat) (vs := [_, _]) hb (fun y => hatO nA nums.length nc (t1 + 1 + 4 + 4) (y.1)) (fun y => y.1 < 18446744073709551616 ∧ y.2 < 64) (fun y => .int .i64 (y.2 : Int)) rfl rfl F.ent26 (fun a w ha => (PassOf_c (C := ⟨Tryd.prog, _, _, _, _⟩) rfl rfl hN (tk := t1 + 1) (st := s2) (few := 4) (by omega) hs2 (by omega) ha).mono (fun e w' h => by obtain ⟨s', x, h1, h2, h3, h4⟩ := h; exact ⟨(s', x), ⟨h1, h2⟩, h3, h4⟩)) ?_
  rintro ⟨s3, p⟩ ⟨hs3, hp⟩
  dsimp only at hs3 hp ⊢
  refine lst_assign rfl rfl ?_
  refine lst_assign rfl rfl ?_
  refine lst_assign rfl rfl ?_
  refine lst_nil ?_
  refine ex_then ?_
  refine cod_seq ?_
  refine cod_region ?_
  refine lst_move rfl rfl ?_
  refine lst_move rfl rfl ?_
  refine lst_len rfl rfl Tryd.underlying22 ?_
  refine lst_call (X := Nat × Nat × List Nat × Option Addr × Nat) (first := []) (cap := []) (vs := [_, _]) (p := fun y => y.1 ≤ 300 ∧ y.2.1 < 18446744073709551616 ∧ Inj ags.length y.2.2.1) (val := fun y => .slice y.2.2.2.1 ags.length y.2.2.2.2) (rs := fun y => .row 3 1 y.2.2.2.1 ags.length y.2.2.2.2 (ints y.2.2.1) :: .blk hb (hatO nA nums.length nc y.1 y.2.1) :: .row 24 5 aA ags.length ac (ags.flatMap Ag.cells) :: []) rfl rfl rfl F.ent52 (fun a w ha => (Shuffle_c (C := ⟨Tryd.prog, _, _, _, _⟩) rfl rfl hN (tk := t1 + 1 + 4 + 4) (st := s3) (n := ags.length) (by omega) hs3 (by omega) ha).mono (fun e w' h => by obtain ⟨t', s', l, A', c', h1, h2, h3, h4, h5⟩ := h; exact ⟨(t', s', l, A', c'), ⟨by (try dsimp only); omega, h2, h3⟩, h4, h5⟩)) ?_
  rintro ⟨t2, s4, l, lA, lc⟩ ⟨ht2, hs4, hI⟩
  dsimp only at ht2 hs4 hI ⊢
  refine lst_assign rfl rfl ?_
  refine lst_nil ?_
  refine ex_then ?_
  refine cod_seq ?_
  refine cod_region ?_
  refine lst_move rfl rfl ?_
  refine lst_fn (X := Option Addr × Nat) (vs := [_]) (p := fun _ => True) (val := fun y => .slice y.1 ags.length y.2) (rs := fun y => [.row 24 5 y.1 ags.length y.2 (ags.flatMap Ag.cells)]) rfl rfl F.ent24 (fun a w ha => (DupAgents_c ag_len ag_one aA ac ags (by omega) w (fun h => by obtain ⟨h1, h2⟩ := row_none ha (e := 24) (size := 5) (n := ags.length) (c := ac) (xs := ags.flatMap Ag.cells) (by simp) h; exact ⟨List.eq_nil_of_length_eq_zero h1, h2⟩) (row_reads ha (cells := Ag.cells) (size := 5) (e := 24) (c := ac) (n := ags.length) (fun _ => rfl) (InR.mem (A := aA)) rfl)).mono (fun e w' h => by obtain ⟨A', c', h1, h2⟩ := h; exact ⟨(A', c'), trivial, h1, h2⟩)) ?_
  rintro ⟨dA, dc⟩ -
  dsimp only [List.cons_append, List.nil_append]
  refine lst_assign rfl rfl ?_
  refine lst_nil ?_
  refine ex_then ?_
  refine cod_seq ?_
  refine cod_seq ?_
  refine cod_region ?_
  refine lst_assign rfl rfl ?_
  refine lst_nil ?_
  refine ex_then ?_
  refine cod_block ?_
  refine cod_loop' (G := Nat × List Ag) (fun g => g.1 ≤ ags.length ∧ Ren ags g.2 l g.1) (fun g => ags.length - g.1) (fun g => [(4, .slice aA ags.length ac), (5, .int .i64 (m1 : Int)), (6, .int .i64 (p : Int)), (7, .slice lA ags.length lc), (8, .slice dA ags.length dc), (9, .int .i64 (g.1 : Int))]) (fun g => .row 24 5 dA ags.length dc (g.2.flatMap Ag.cells) :: .row 3 1 lA ags.length lc (ints l) :: .row 24 5 aA ags.length ac (ags.flatMap Ag.cells) :: []) (0, ags) ⟨Nat.zero_le _, Ren.zero ags l⟩ (by repeat (first | exact Sub.nil _ | refine Sub.cons rfl ?_)) (by repeat (first | exact Pck.nil _ | exact Pck.refl _ | (apply Pck.cons; focus ((repeat (first | exact Rem.here _ | apply Rem.there)); done)) | refine Pck.skip _ ?_)) ?_
  rintro ⟨i, os⟩ ⟨hil, hR⟩
  dsimp only at hil hR ⊢
  refine cod_seq ?_
  refine cod_seq ?_
  refine cod_region ?_
  refine lst_move rfl rfl ?_
  refine lst_move rfl rfl ?_
  refine lst_len rfl rfl Tryd.underlying22 ?_
  refine lst_int rfl rfl rfl bin_lss ?_
  refine lst_nil ?_
  refine ex_then ?_
  refine cod_cond_dec rfl (fun hc0 => ?_) (fun hc0 => ?_)
  · skip
    have hi' : i < ags.length := by omega
    have hosl := hR.len
    have hll := hI.1
    obtain ⟨q, hq⟩ : ∃ q, l[i]? = some q := ⟨_, List.getElem?_eq_getElem (by omega)⟩
    have hql := hI.2.1 _ _ hq
    obtain ⟨x, hx⟩ : ∃ x, ags[i]? = some x := ⟨_, List.getElem?_eq_getElem hi'⟩
    refine cod_know (φ := ∃ g, aA = some ⟨g, 0, none⟩) (fun a w ha => row_some (ha.own _ (InR.mem (A := aA))) (by omega)) (fun hgA => ?_)
    obtain ⟨gA, rfl⟩ := hgA
    refine cod_know (φ := ∃ g, lA = some ⟨g, 0, none⟩) (fun a w ha => row_some (ha.own _ (InR.mem (A := lA))) (by omega)) (fun hgL => ?_)
    obtain ⟨gL, rfl⟩ := hgL
    refine cod_know (φ := ∃ g, dA = some ⟨g, 0, none⟩) (fun a w ha => row_some (ha.own _ (InR.mem (A := dA))) (by omega)) (fun hgD => ?_)
    obtain ⟨gD, rfl⟩ := hgD
    refine cod_skip ?_
    refine ex_then ?_
    refine cod_seq ?_
    refine cod_block ?_
    refine any_begin [.r (some ⟨gD, 0, none⟩)] F.follows 11 rfl [false, false, false, false, false, false, false, false, false, false, false] rfl ?_
    refine any_take (listed' := [true, false, false, false, false, false, false, false, false, false, false].toArray) 0 rfl rfl rfl (by kernel_rfl) (by kernel_rfl) (by kernel_rfl) (by repeat (first | exact List.Sublist.refl _ | exact List.nil_sublist _ | refine List.Sublist.cons_cons _ ?_ | refine List.Sublist.cons _ ?_)) (yld_move rfl) rfl ?_
    refine any_take (listed' := [true, true, false, false, false, false, false, false, false, false, false].toArray) 1 rfl rfl rfl (by kernel_rfl) (by kernel_rfl) (by kernel_rfl) (by repeat (first | exact List.Sublist.refl _ | exact List.nil_sublist _ | refine List.Sublist.cons_cons _ ?_ | refine List.Sublist.cons _ ?_)) (yld_move rfl) rfl ?_
    refine any_take (listed' := [true, true, true, false, false, false, false, false, false, false, false].toArray) 2 rfl rfl rfl (by kernel_rfl) (by kernel_rfl) (by kernel_rfl) (by repeat (first | exact List.Sublist.refl _ | exact List.nil_sublist _ | refine List.Sublist.cons_cons _ ?_ | refine List.Sublist.cons _ ?_)) (yld_move rfl) rfl ?_
    refine any_take (listed' := [true, true, true, true, false, false, false, false, false, false, false].toArray) 3 rfl rfl rfl (by kernel_rfl) (by kernel_rfl) (by kernel_rfl) (by repeat (first | exact List.Sublist.refl _ | exact List.nil_sublist _ | refine List.Sublist.cons_cons _ ?_ | refine List.Sublist.cons _ ?_)) (yld_index (j := i) rfl rfl Tryd.underlying25 F.ti3 rfl hi') rfl ?_
    refine any_take (listed' := [true, true, true, true, true, false, false, false, false, false, false].toArray) 4 rfl rfl rfl (by kernel_rfl) (by kernel_rfl) (by kernel_rfl) (by repeat (first | exact List.Sublist.refl _ | exact List.nil_sublist _ | refine List.Sublist.cons_cons _ ?_ | refine List.Sublist.cons _ ?_)) (yld_load_at (v := .int .i64 (q : Int)) rfl F.one3 (fun a w ha => row_cell ha (InR.mem (A := (some ⟨gL, 0, none⟩))) rfl (by rw [Nat.zero_add]; exact ints_get hq))) rfl ?_
    refine any_take (listed' := [true, true, true, true, true, true, false, false, false, false, false].toArray) 5 rfl rfl rfl (by kernel_rfl) (by kernel_rfl) (by kernel_rfl) (by repeat (first | exact List.Sublist.refl _ | exact List.nil_sublist _ | refine List.Sublist.cons_cons _ ?_ | refine List.Sublist.cons _ ?_)) (yld_move rfl) rfl ?_
    refine any_take (listed' := [true, true, true, true, true, true, true, false, false, false, false].toArray) 6 rfl rfl rfl (by kernel_rfl) (by kernel_rfl) (by kernel_rfl) (by repeat (first | exact List.Sublist.refl _ | exact List.nil_sublist _ | refine List.Sublist.cons_cons _ ?_ | refine List.Sublist.cons _ ?_)) (yld_move rfl) rfl ?_
    refine any_take (listed' := [true, true, true, true, true, true, true, true, false, false, false].toArray) 7 rfl rfl rfl (by kernel_rfl) (by kernel_rfl) (by kernel_rfl) (by repeat (first | exact List.Sublist.refl _ | exact List.nil_sublist _ | refine List.Sublist.cons_cons _ ?_ | refine List.Sublist.cons _ ?_)) (yld_index (j := i) rfl rfl Tryd.underlying22 F.ti24 rfl hi') rfl ?_
    refine any_take (listed' := [true, true, true, true, true, true, true, true, true, false, false].toArray) 8 rfl rfl rfl (by kernel_rfl) (by kernel_rfl) (by kernel_rfl) (by repeat (first | exact List.Sublist.refl _ | exact List.nil_sublist _ | refine List.Sublist.cons_cons _ ?_ | refine List.Sublist.cons _ ?_)) (yld_loadN_at (l := [.int .i64 (x.needs : Int), .int .i64 (x.no : Int), .int .i64 (x.takes : Int), .int .i64 (x.leaves : Int), .int .i64 (x.cost : Int)]) rfl F.agg24 F.ti24 rfl (fun a w ha j u hu => row_at ha (e := 24) (n := ags.length) (c := ac) (cells := Ag.cells) (by simp) (fun _ => rfl) hx hu)) rfl ?_
    refine any_take (listed' := [true, true, true, true, true, true, true, true, true, true, false].toArray) 9 rfl rfl rfl (by kernel_rfl) (by kernel_rfl) (by kernel_rfl) (by repeat (first | exact List.Sublist.refl _ | exact List.nil_sublist _ | refine List.Sublist.cons_cons _ ?_ | refine List.Sublist.cons _ ?_)) (yld_index (j := q) rfl rfl Tryd.underlying22 F.ti24 rfl hql) rfl ?_
    refine any_one (listed' := [true, true, true, true, true, true, true, true, true, true, true].toArray) 10 (by kernel_rfl) rfl rfl ?_
    refine lst_store_row (N := ags.length) (xs := os.flatMap Ag.cells) (out := (os.set q x).flatMap Ag.cells) rfl rfl F.ti24 rfl (splice_ags (by omega) x) (by repeat (first | exact Upd.head _ | apply Upd.tail)) ?_
    refine lst_nil ?_
    refine any_next (by repeat (first | exact List.Sublist.refl _ | exact List.nil_sublist _ | refine List.Sublist.cons_cons _ ?_ | refine List.Sublist.cons _ ?_)) ?_
    refine any_done rfl (by kernel_rfl) ?_
    refine ex_block_normal ?_
    refine ex_then ?_
    refine cod_region ?_
    refine lst_move rfl rfl ?_
    refine lst_int rfl rfl rfl (fun w => bin_add w (wrap_i64' _ (by omega) (by have := hok.1; omega))) ?_
    refine lst_assign rfl rfl ?_
    refine lst_nil ?_
    refine ex_round' (i + 1, os.set q x) ⟨by (try dsimp only); omega, hR.step hI hq hx⟩ (by (try dsimp only); omega) (by repeat (first | exact Sub.nil _ | refine Sub.cons rfl ?_)) (by repeat (first | exact Pck.nil _ | exact Pck.refl _ | (apply Pck.cons; focus ((repeat (first | exact Rem.here _ | apply Rem.there)); done)) | refine Pck.skip _ ?_))
  · skip
    obtain rfl : i = ags.length := by omega
    have hsame := hR.same hI
    have hlen := hR.len
    have hoko : Oks os := ⟨by omega, fun x hx => hago x (hR.sub x hx)⟩
    have hb1 := hope_le ags p
    refine cod_exit ?_
    refine ex_then_exit ?_
    refine ex_then_exit ?_
    refine ex_block_exit ?_
    refine ex_then ?_
    refine cod_seq ?_
    refine cod_region ?_
    refine lst_move rfl rfl ?_
    refine lst_move rfl rfl ?_
    refine lst_move rfl rfl ?_
    refine lst_fn (X := List Nat × Nat × Option Addr × Nat) (vs := [_, _, _]) (p := fun y => ShS ags p (m1) y.1 y.2.1) (val := fun y => .tuple #[.slice y.2.2.1 y.1.length y.2.2.2, .int .i64 (y.2.1 : Int)]) (rs := fun y => [.row 3 1 y.2.2.1 y.1.length y.2.2.2 (ints y.1)]) rfl rfl F.ent53 (fun a w ha => (Shortest_s aA ac ags hok (m1) p (by omega) hp w (row_reads ha (cells := Ag.cells) (size := 5) (e := 24) (c := ac) (n := ags.length) (fun _ => rfl) (InR.mem (A := aA)) rfl)).mono (fun e w' h => by obtain ⟨W, E, A', c', h1, h2, h3⟩ := h; exact ⟨(W, E, A', c'), h1, h2, h3⟩)) ?_
    rintro ⟨W1, E1, wA1, wc1⟩ hsh1
    dsimp only [List.cons_append, List.nil_append] at hsh1 ⊢
    refine lst_move rfl rfl ?_
    refine lst_extract rfl rfl rfl ?_
    refine lst_extract rfl rfl rfl ?_
    refine lst_assign rfl rfl ?_
    refine lst_assign rfl rfl ?_
    refine lst_nil ?_
    refine ex_then ?_
    refine cod_seq ?_
    refine cod_region ?_
    refine lst_move rfl rfl ?_
    refine lst_move rfl rfl ?_
    refine lst_move rfl rfl ?_
    refine lst_fn (X := List Nat × Nat × Option Addr × Nat) (vs := [_, _, _]) (p := fun y => ShS os p m1 y.1 y.2.1) (val := fun y => .tuple #[.slice y.2.2.1 y.1.length y.2.2.2, .int .i64 (y.2.1 : Int)]) (rs := fun y => [.row 3 1 y.2.2.1 y.1.length y.2.2.2 (ints y.1)]) rfl rfl F.ent53 (fun a w ha => by
      have h := Shortest_s dA dc os hoko m1 p (by omega) hp w (row_reads ha (cells := Ag.cells) (size := 5) (e := 24) (c := dc) (n := ags.length) (l := os) (fun _ => rfl) (InR.mem (A := dA)) hlen.symm)
      rw [hlen] at h
      exact h.mono (fun e w' h => by obtain ⟨W, E, A', c', h1, h2, h3⟩ := h; exact ⟨(W, E, A', c'), h1, h2, h3⟩)) ?_
    rintro ⟨W2, E2, wA2, wc2⟩ hsh2
    dsimp only [List.cons_append, List.nil_append] at hsh2 ⊢
    obtain ⟨rfl, hWl⟩ := hsame.short hsh1 hsh2
    refine lst_move rfl rfl ?_
    refine lst_extract rfl rfl rfl ?_
    refine lst_extract rfl rfl rfl ?_
    refine lst_assign rfl rfl ?_
    refine lst_assign rfl rfl ?_
    refine lst_nil ?_
    refine ex_then ?_
    refine cod_seq ?_
    refine cod_region ?_
    refine lst_move rfl rfl ?_
    refine lst_move rfl rfl ?_
    refine lst_move rfl rfl ?_
    refine lst_fn (X := List Nat × Nat × Nat × Option Addr × Nat) (vs := [_, _, _]) (p := fun y => ChS ags (p) (m1) y.1 y.2.1 y.2.2.1) (val := fun y => .tuple #[.slice y.2.2.2.1 y.1.length y.2.2.2.2, .int .i64 (y.2.1 : Int), .int .i64 (y.2.2.1 : Int)]) (rs := fun y => [.row 3 1 y.2.2.2.1 y.1.length y.2.2.2.2 (ints y.1)]) rfl rfl F.ent35 (fun a w ha => (Cheapest_s aA ac ags hok (m1) (p) (by omega) hp w (row_reads ha (cells := Ag.cells) (size := 5) (e := 24) (c := ac) (n := ags.length) (fun _ => rfl) (InR.mem (A := aA)) rfl)).mono (fun e w' h => by obtain ⟨W, k, E, A', c', h1, h2, h3⟩ := h; exact ⟨(W, k, E, A', c'), h1, h2, h3⟩)) ?_
    rintro ⟨W3, k3, E3, wA3, wc3⟩ hch3
    dsimp only [List.cons_append, List.nil_append] at hch3 ⊢
    refine lst_move rfl rfl ?_
    refine lst_extract rfl rfl rfl ?_
    refine lst_extract rfl rfl rfl ?_
    refine lst_extract rfl rfl rfl ?_
    refine lst_assign rfl rfl ?_
    refine lst_assign rfl rfl ?_
    refine lst_assign rfl rfl ?_
    refine lst_nil ?_
    refine ex_then ?_
    refine cod_seq ?_
    refine cod_region ?_
    refine lst_move rfl rfl ?_
    refine lst_move rfl rfl ?_
    refine lst_move rfl rfl ?_
    refine lst_fn (X := List Nat × Nat × Nat × Option Addr × Nat) (vs := [_, _, _]) (p := fun y => ChS os p m1 y.1 y.2.1 y.2.2.1) (val := fun y => .tuple #[.slice y.2.2.2.1 y.1.length y.2.2.2.2, .int .i64 (y.2.1 : Int), .int .i64 (y.2.2.1 : Int)]) (rs := fun y => [.row 3 1 y.2.2.2.1 y.1.length y.2.2.2.2 (ints y.1)]) rfl rfl F.ent35 (fun a w ha => by
      have h := Cheapest_s dA dc os hoko m1 p (by omega) hp w (row_reads ha (cells := Ag.cells) (size := 5) (e := 24) (c := dc) (n := ags.length) (l := os) (fun _ => rfl) (InR.mem (A := dA)) hlen.symm)
      rw [hlen] at h
      exact h.mono (fun e w' h => by obtain ⟨W, k, E, A', c', h1, h2, h3⟩ := h; exact ⟨(W, k, E, A', c'), h1, h2, h3⟩)) ?_
    rintro ⟨W4, k4, E4, wA4, wc4⟩ hch4
    dsimp only [List.cons_append, List.nil_append] at hch4 ⊢
    obtain ⟨rfl, rfl⟩ := hsame.cheap hch3 hch4
    refine lst_move rfl rfl ?_
    refine lst_extract rfl rfl rfl ?_
    refine lst_extract rfl rfl rfl ?_
    refine lst_extract rfl rfl rfl ?_
    refine lst_assign rfl rfl ?_
    refine lst_assign rfl rfl ?_
    refine lst_assign rfl rfl ?_
    refine lst_nil ?_
    refine ex_then ?_
    refine cod_seq ?_
    refine cod_seq ?_
    refine cod_region ?_
    refine lst_move rfl rfl ?_
    refine lst_move rfl rfl ?_
    refine lst_int (v := .bool false) rfl rfl rfl (fun w => by rw [bin_neq]; simp) ?_
    refine lst_move rfl rfl ?_
    refine lst_on rfl rfl ?_
    refine lst_move rfl rfl ?_
    refine lst_on rfl rfl ?_
    refine lst_move rfl rfl ?_
    refine lst_on rfl rfl ?_
    refine lst_int (v := .bool false) rfl rfl rfl (fun w => by rw [bin_neq]; simp) ?_
    refine lst_pick_false rfl rfl rfl ?_
    refine lst_move rfl rfl ?_
    refine lst_on rfl rfl ?_
    refine lst_move rfl rfl ?_
    refine lst_on rfl rfl ?_
    refine lst_move rfl rfl ?_
    refine lst_on rfl rfl ?_
    refine lst_int (v := .bool false) rfl rfl rfl (fun w => by rw [bin_neq]; simp) ?_
    refine lst_pick_false rfl rfl rfl ?_
    refine lst_move rfl rfl ?_
    refine lst_on rfl rfl ?_
    refine lst_move rfl rfl ?_
    refine lst_on rfl rfl ?_
    refine lst_len rfl rfl Tryd.underlying25 ?_
    refine lst_on rfl rfl ?_
    refine lst_move rfl rfl ?_
    refine lst_on rfl rfl ?_
    refine lst_len rfl rfl Tryd.underlying25 ?_
    refine lst_on rfl rfl ?_
    refine lst_int (v := .bool false) rfl rfl rfl (fun w => by rw [bin_neq, hWl]; simp) ?_
    refine lst_pick_false rfl rfl rfl ?_
    refine lst_nil ?_
    refine ex_then ?_
    refine cod_cond_false rfl ?_
    refine cod_skip ?_
    refine ex_then ?_
    refine cod_seq ?_
    refine cod_region ?_
    refine lst_move rfl rfl ?_
    refine lst_move rfl rfl ?_
    refine lst_fn (X := Option Addr × Nat) (vs := [_, _]) (p := fun _ => True) (val := fun y => .tuple #[.slice y.1 (hopeL ags (p)).length y.2, .int .i64 0]) (rs := fun y => [.row 3 1 y.1 (hopeL ags (p)).length y.2 (ints (hopeL ags (p)))]) rfl rfl F.ent51 (fun a w ha => (Hopeless_ok aA ac ags hok (p) hp w (row_reads ha (cells := Ag.cells) (size := 5) (e := 24) (c := ac) (n := ags.length) (fun _ => rfl) (InR.mem (A := aA)) rfl)).mono (fun e w' h => by obtain ⟨A', c', h1, h2⟩ := h; exact ⟨(A', c'), trivial, h1, h2⟩)) ?_
    rintro ⟨hA1, hc1⟩ -
    dsimp only [List.cons_append, List.nil_append]
    refine lst_move rfl rfl ?_
    refine lst_extract rfl rfl rfl ?_
    refine lst_extract rfl rfl rfl ?_
    refine lst_assign rfl rfl ?_
    refine lst_assign rfl rfl ?_
    refine lst_nil ?_
    refine ex_then ?_
    refine cod_seq ?_
    refine cod_region ?_
    refine lst_move rfl rfl ?_
    refine lst_move rfl rfl ?_
    refine lst_fn (X := Option Addr × Nat) (vs := [_, _]) (p := fun _ => True) (val := fun y => .tuple #[.slice y.1 (hopeL os p).length y.2, .int .i64 0]) (rs := fun y => [.row 3 1 y.1 (hopeL os p).length y.2 (ints (hopeL os p))]) rfl rfl F.ent51 (fun a w ha => by
      have h := Hopeless_ok dA dc os hoko p hp w (row_reads ha (cells := Ag.cells) (size := 5) (e := 24) (c := dc) (n := ags.length) (l := os) (fun _ => rfl) (InR.mem (A := dA)) hlen.symm)
      rw [hlen] at h
      exact h.mono (fun e w' h => by obtain ⟨A', c', h1, h2⟩ := h; exact ⟨(A', c'), trivial, h1, h2⟩)) ?_
    rintro ⟨hA2, hc2⟩ -
    dsimp only [List.cons_append, List.nil_append]
    refine lst_move rfl rfl ?_
    refine lst_extract rfl rfl rfl ?_
    refine lst_extract rfl rfl rfl ?_
    refine lst_assign rfl rfl ?_
    refine lst_assign rfl rfl ?_
    refine lst_nil ?_
    refine ex_then ?_
    refine cod_seq ?_
    refine cod_region ?_
    refine lst_move rfl rfl ?_
    refine lst_move rfl rfl ?_
    refine lst_fn (X := Nat → Option Wk) (vs := [_, _]) (p := fun tb => ∀ f, f < 64 → FoundO ags (usedAll ags.length) 1 (-1) (f, 0, 0) (fun t => decide (nn t.1 p = 0)) (tb f)) (val := fun tb => .tuple #[.int .i64 ((farL tb 64).1 : Int), .int .i64 ((farL tb 64).2 : Int), .int .i64 0]) (rs := fun _ => []) rfl rfl F.ent54 (fun a w ha => (Farthest_ok aA ac ags hok p hp w (row_reads ha (cells := Ag.cells) (size := 5) (e := 24) (c := ac) (n := ags.length) (fun _ => rfl) (InR.mem (A := aA)) rfl)).mono (fun e w' h => by obtain ⟨tb, h1, h2, h3⟩ := h; exact ⟨tb, h1, h2, h3⟩)) ?_
    intro tb1 hf1
    dsimp only [List.cons_append, List.nil_append]
    refine lst_move rfl rfl ?_
    refine lst_extract rfl rfl rfl ?_
    refine lst_extract rfl rfl rfl ?_
    refine lst_extract rfl rfl rfl ?_
    refine lst_assign rfl rfl ?_
    refine lst_assign rfl rfl ?_
    refine lst_assign rfl rfl ?_
    refine lst_nil ?_
    refine ex_then ?_
    refine cod_seq ?_
    refine cod_region ?_
    refine lst_move rfl rfl ?_
    refine lst_move rfl rfl ?_
    refine lst_fn (X := Nat → Option Wk) (vs := [_, _]) (p := fun tb => ∀ f, f < 64 → FoundO os (usedAll os.length) 1 (-1) (f, 0, 0) (fun t => decide (nn t.1 p = 0)) (tb f)) (val := fun tb => .tuple #[.int .i64 ((farL tb 64).1 : Int), .int .i64 ((farL tb 64).2 : Int), .int .i64 0]) (rs := fun _ => []) rfl rfl F.ent54 (fun a w ha => by
      have h := Farthest_ok dA dc os hoko p hp w (row_reads ha (cells := Ag.cells) (size := 5) (e := 24) (c := dc) (n := ags.length) (l := os) (fun _ => rfl) (InR.mem (A := dA)) hlen.symm)
      rw [hlen] at h
      exact h.mono (fun e w' h => by obtain ⟨tb, h1, h2, h3⟩ := h; exact ⟨tb, (by rw [hlen]; exact h1), h2, h3⟩)) ?_
    intro tb2 hf2
    dsimp only [List.cons_append, List.nil_append]
    have hfar : farL tb2 64 = farL tb1 64 := (far_eq 64 fun f hf => hsame.found (hf1 f hf) (hf2 f hf)).symm
    rw [hfar]
    refine lst_move rfl rfl ?_
    refine lst_extract rfl rfl rfl ?_
    refine lst_extract rfl rfl rfl ?_
    refine lst_extract rfl rfl rfl ?_
    refine lst_assign rfl rfl ?_
    refine lst_assign rfl rfl ?_
    refine lst_assign rfl rfl ?_
    refine lst_nil ?_
    refine ex_then ?_
    refine cod_seq ?_
    refine cod_region ?_
    refine lst_move rfl rfl ?_
    refine lst_int rfl rfl rfl bin_eql ?_
    refine lst_move rfl rfl ?_
    refine lst_on rfl rfl ?_
    refine lst_move rfl rfl ?_
    refine lst_on rfl rfl ?_
    refine lst_int rfl rfl rfl bin_eql ?_
    refine lst_pick_true rfl rfl rfl ?_
    refine lst_move rfl rfl ?_
    refine lst_on rfl rfl ?_
    refine lst_move rfl rfl ?_
    refine lst_on rfl rfl ?_
    refine lst_int rfl rfl rfl bin_eql ?_
    refine lst_pick_true rfl rfl rfl ?_
    refine lst_move rfl rfl ?_
    refine lst_on rfl rfl ?_
    refine lst_move rfl rfl ?_
    refine lst_on rfl rfl ?_
    refine lst_int rfl rfl rfl bin_eql ?_
    refine lst_pick_true rfl rfl rfl ?_
    refine lst_move rfl rfl ?_
    refine lst_on rfl rfl ?_
    refine lst_move rfl rfl ?_
    refine lst_on rfl rfl ?_
    refine lst_move rfl rfl ?_
    refine lst_on rfl rfl ?_
    refine lst_int (v := .bool true) rfl rfl rfl (fun w => by rw [bin_eql]; simp) ?_
    refine lst_pick_true rfl rfl rfl ?_
    refine lst_move rfl rfl ?_
    refine lst_on rfl rfl ?_
    refine lst_move rfl rfl ?_
    refine lst_on rfl rfl ?_
    refine lst_move rfl rfl ?_
    refine lst_on rfl rfl ?_
    refine lst_int (v := .bool true) rfl rfl rfl (fun w => by rw [bin_eql]; simp) ?_
    refine lst_pick_true rfl rfl rfl ?_
    refine lst_move rfl rfl ?_
    refine lst_on rfl rfl ?_
    refine lst_move rfl rfl ?_
    refine lst_on rfl rfl ?_
    refine lst_move rfl rfl ?_
    refine lst_on rfl rfl ?_
    refine lst_fn0 (v := .bool true) (vs := [_, _]) rfl rfl F.ent32 (fun a w ha => by
      have hr1 : RdL ncell 1 w hA1 (hopeL ags p) := row_reads ha (cells := ncell) (size := 1) (e := 3) (c := hc1) (n := (hopeL ags p).length) (fun _ => rfl) (by rw [← ints_flat]; exact InR.mem (A := hA1)) rfl
      have hr2 : RdL ncell 1 w hA2 (hopeL os p) := row_reads ha (cells := ncell) (size := 1) (e := 3) (c := hc2) (n := (hopeL os p).length) (fun _ => rfl) (by rw [← ints_flat]; exact InR.mem (A := hA2)) rfl
      have h := eqInts_c hA1 hA2 hc1 hc2 ((hopeL ags p).map fun (n : Nat) => (n : Int)) ((hopeL os p).map fun (n : Nat) => (n : Int)) (by rw [List.length_map]; omega) w hr1.cast hr2.cast
      rw [List.length_map, List.length_map] at h
      exact h.mono (fun e w' h => ⟨h.1.trans (by rw [hsame.hope]; simp), h.2⟩)) ?_
    refine lst_pick_true rfl rfl rfl ?_
    refine lst_move rfl rfl ?_
    refine lst_on rfl rfl ?_
    refine lst_fn0 (vs := []) rfl rfl F.ent21 (fun a w ha => fined_c w) ?_
    refine lst_pick_true rfl rfl rfl ?_
    refine lst_assign rfl rfl ?_
    refine lst_nil ?_
    refine ex_then ?_
    refine cod_ret ?_
    exact ex_ret rfl (fun a w ha => res_one rfl rfl ha) (fun a w ha => ⟨rfl, ha.grown (List.nil_sublist _)⟩)

end Go.Proofs.YtofkhehcnfiopaaDoor.N
