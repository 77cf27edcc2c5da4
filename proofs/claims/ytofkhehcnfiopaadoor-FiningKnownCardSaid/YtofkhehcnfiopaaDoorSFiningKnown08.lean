/- Parts of the walks of the laws on fining, those that FiningKnown needs: BothP, Sx13, F42, Far2, All4, ChsP, FewP, FewQ, F60, ReaP, F61, ShoP, WayP, KnE, CnP, IsoP, WayQ, All5, Sx16, F48, V12, Rng, RngO, ItV, F69. -/
import Derived.Test.YtofkhehcnfiopaaDoorSFiningKnown07
import Derived.Test.YtofkhehcnfiopaaDoorProg
import Derived.Test.YtofkhehcnfiopaaDoorSFiningKnown05
import Derived.Test.YtofkhehcnfiopaaDoorSFiningKnown06
import Derived.Test.YtofkhehcnfiopaaDoorSFiningKnown01
import Derived.RangeFuncRecord
import Derived.Test.YtofkhehcnfiopaaDoorSFiningKnown03
import Derived.Test.YtofkhehcnfiopaaDoorSFiningKnown02
import Derived.Test.YtofkhehcnfiopaaDoorSFiningKnown04
namespace Go.Proofs.YtofkhehcnfiopaaDoor.N
open Go Go.RowKit Go.Proofs
set_option linter.unusedSectionVars false
variable [I : Sys]
/-! The first list, the shorter ones first, that does something. -/
def FS (n : Nat) (P : List Nat → Prop) (K : Nat) : Option (List Nat) → Prop
  | some v => P v ∧ Wd n v ∧ v.length ≤ K ∧ ∀ u, Wd n u → u.length ≤ K → P u → code n v ≤ code n u
  | none => ∀ u, Wd n u → u.length ≤ K → ¬ P u
theorem FS.unique {n K : Nat} {P : List Nat → Prop} {r s : Option (List Nat)} (h : FS n P K r) (h' : FS n P K s) : r = s := by
  cases r with
  | none =>
    cases s with
    | none => rfl
    | some v => exact absurd h'.1 (h v h'.2.1 h'.2.2.1)
  | some v =>
    cases s with
    | none => exact absurd h.1 (h' v h.2.1 h.2.2.1)
    | some w =>
      have h1 := h.2.2.2 w h'.2.1 h'.2.2.1 h'.1
      have h2 := h'.2.2.2 v h.2.1 h.2.2.1 h.1
      exact congrArg some (code_inj n _ v w rfl h.2.1 h'.2.1 (by omega))
/-- What a walk through all lists has seen. -/
structure SeenS (n : Nat) (P : List Nat → Prop) (k i : Nat) : Prop where
  less : ∀ u, Wd n u → u.length < k → ¬ P u
  now : ∀ j u, j < i → (strs n k)[j]? = some u → ¬ P u
theorem SeenS.start {n : Nat} {P : List Nat → Prop} : SeenS n P 0 0 := ⟨fun _ _ h => absurd h (Nat.not_lt_zero _), fun _ _ h => absurd h (Nat.not_lt_zero _)⟩
theorem SeenS.next {n k i : Nat} {P : List Nat → Prop} (h : SeenS n P k i) {v : List Nat} (hv : (strs n k)[i]? = some v) (hp : ¬ P v) : SeenS n P k (i + 1) :=
  ⟨h.less, fun j u hj hu => by
    rcases Nat.lt_succ_iff_lt_or_eq.1 hj with h1 | rfl
    · exact h.now j u h1 hu
    · rw [hv] at hu
      cases hu
      exact hp⟩
theorem SeenS.round {n k i : Nat} {P : List Nat → Prop} (h : SeenS n P k i) (hi : (strs n k).length ≤ i) : SeenS n P (k + 1) 0 :=
  ⟨fun u hu hl => by
    rcases Nat.lt_succ_iff_lt_or_eq.1 hl with h1 | h1
    · exact h.less u hu h1
    · obtain ⟨j, hj⟩ := List.getElem?_of_mem (strs_all hu h1)
      exact h.now j u (Nat.lt_of_lt_of_le (List.getElem?_eq_some_iff.1 hj).1 hi) hj, fun _ _ h => absurd h (Nat.not_lt_zero _)⟩
theorem SeenS.none_ {n K : Nat} {P : List Nat → Prop} (h : SeenS n P (K + 1) 0) : FS n P K none := fun u hu hl => h.less u hu (by omega)
theorem SeenS.found {n k i K : Nat} {P : List Nat → Prop} (h : SeenS n P k i) (hk : k ≤ K) {v : List Nat} (hv : (strs n k)[i]? = some v) (hp : P v) : FS n P K (some v) := by
  obtain ⟨hvl, hvw⟩ := strs_mem (List.mem_of_getElem? hv)
  refine ⟨hp, hvw, by omega, fun u hu _ hpu => ?_⟩
  rcases Nat.lt_trichotomy u.length k with hl | hl | hl
  · exact absurd hpu (h.less u hu hl)
  · obtain ⟨j, hj⟩ := List.getElem?_of_mem (strs_all hu hl)
    rcases Nat.lt_or_ge j i with h2 | h2
    · exact absurd hpu (h.now j u h2 hj)
    · exact strs_le_code hv hj h2
  · exact Nat.le_of_lt (code_lt_of_len n u.length u v rfl (by omega) hvw)
/-! Teams. -/
end Go.Proofs.YtofkhehcnfiopaaDoor.N
namespace Go.Proofs.YtofkhehcnfiopaaDoor.N
open Go Go.RowKit Go.Proofs
set_option linter.unusedSectionVars false
variable [I : Sys]
theorem Upd.same {r r' : Res} {l l' : List Res} (h : Upd r r' l l') (e : r' = r) : l' = l := by
  induction h with
  | head l => rw [e]
  | tail x _ ih => rw [ih]
section
variable {C : Ctx} {fr : List (Nat × Value)} {hp : List Res} {ops : Array Oper} {Q : Exit → Act → World → Prop} {rest : List Oper} {d : Nat} {ty : TypeId} {pos : String} {after : Array Edge}
end
/-! Lists with the first agent ahead: the same lists. -/
end Go.Proofs.YtofkhehcnfiopaaDoor.N
namespace Go.Proofs.YtofkhehcnfiopaaDoor.N
open Go Go.RowKit Go.Proofs
set_option linter.unusedSectionVars false
variable [I : Sys]

theorem Both_e7 (A : Option Addr) (c : Nat) (ags : List Ag) (hok : Oks ags) (mA : Option Addr) (mc : Nat) (ms : List Int) (p : Int) (h0 : ms.length = 0) (w : World) (hA : RdL Ag.cells 5 w A ags) : Calls Tryd.prog 28 #[.slice A ags.length c, .slice mA ms.length mc, .int .i64 p] w fun e w' => e = .returned (.tuple #[.slice none 0 0, .int .i64 7]) ∧ Grew w w' [] := by
  have hua : usedAll ags.length < 256 := by have := usedAll_lt hok.1; omega
  refine enter_defers (N := 48) [(0, .slice A ags.length c), (1, .slice mA ms.length mc), (2, .int .i64 p)] Tryd.func28 rfl Tryd.ntmps28 rfl rfl ?_
  refine cod_seq ?_
  refine cod_region ?_
  refine lst_box rfl rfl ?_
  intro b4
  refine lst_assign rfl rfl ?_
  refine lst_alloc rfl F.ti35 ?_
  intro b7
  refine lst_nil ?_
  refine ex_then ?_
  refine cod_seq ?_
  refine cod_region ?_
  refine lst_defer (first := []) (cap := []) (vs := [_]) rfl rfl ?_
  refine lst_nil ?_
  refine ex_then ?_
  refine cod_seq ?_
  refine cod_region ?_
  refine lst_move rfl rfl ?_
  refine lst_fn (X := Option Addr × Nat) (vs := [_]) (p := fun _ => True) (val := fun x => .agg [.slice x.1 ags.length x.2, .int .u8 (usedAll ags.length : Nat)].toArray) (rs := fun x => [.row 89 5 x.1 ags.length x.2 (ags.flatMap Ag.cells)]) rfl rfl F.ent75 (fun a w ha => (begin_ok A c ags hok w (hA.later ha.below)).mono (fun e w' h => by obtain ⟨A', c', h1, h2⟩ := h; exact ⟨(A', c'), trivial, h1, h2⟩)) ?_
  rintro ⟨aA, cg⟩ -
  dsimp only [List.cons_append, List.nil_append]
  refine lst_alloc rfl F.ti75 ?_
  intro b8
  refine lst_store rfl rfl F.ti75 rfl ?_
  refine lst_nil ?_
  refine ex_then ?_
  refine cod_seq ?_
  refine cod_seq ?_
  refine cod_region ?_
  refine lst_load rfl rfl F.one25 ?_
  refine lst_len rfl rfl Tryd.underlying25 ?_
  refine lst_int rfl rfl rfl bin_eql ?_
  refine lst_nil ?_
  refine ex_then ?_
  refine cod_cond_dec rfl (fun hc0 => ?_) (fun hc0 => ?_)
  · skip
    refine cod_seq ?_
    refine cod_region ?_
    refine lst_assign rfl rfl ?_
    refine lst_store rfl rfl F.ti35 rfl ?_
    refine lst_nil ?_
    refine ex_then ?_
    refine cod_ret ?_
    refine ex_then_ret ?_
    exact ex_ret_caught (fun a w ha => ⟨_, res_tc (fn := Tryd.f28) ha rfl rfl rfl F.one35, rfl, ha.grown (List.nil_sublist _)⟩)
  · skip
    exact absurd h0 (by omega) -- done

end Go.Proofs.YtofkhehcnfiopaaDoor.N
namespace Go.Proofs.YtofkhehcnfiopaaDoor.N
open Go Go.RowKit Go.Proofs
set_option linter.unusedSectionVars false
variable [I : Sys]
/-! The melt that takes longest. -/
def bestL (L : List Nat) : Nat → Nat × Nat
  | 0 => (0, 0)
  | k + 1 => if L.getD k 0 < farN ∧ (bestL L k).2 < L.getD k 0 then (k, L.getD k 0) else bestL L k
theorem Dst.unique {ags : List Ag} {used p : Nat} {L M : List Nat} (h : Dst ags used p L) (h' : Dst ags used p M) : L = M := by
  apply List.ext_getElem?
  intro f
  by_cases hf : f < 64
  · have e : L.getD f 0 = M.getD f 0 := by
      by_cases hL : L.getD f 0 = farN
      · rw [hL, (h'.far f hf).2 ((h.far f hf).1 hL)]
      · have hM : M.getD f 0 ≠ farN := fun e => hL ((h.far f hf).2 ((h'.far f hf).1 e))
        obtain ⟨_, ⟨c, hw⟩, hm⟩ := h.way f hf hL
        obtain ⟨_, ⟨c', hw'⟩, hm'⟩ := h'.way f hf hM
        exact Nat.le_antisymm (hm _ _ hw') (hm' _ _ hw)
    rw [List.getElem?_eq_getElem (by rw [h.len]; exact hf), List.getElem?_eq_getElem (by rw [h'.len]; exact hf)]
    rw [List.getD_eq_getElem?_getD, List.getD_eq_getElem?_getD, List.getElem?_eq_getElem (by rw [h.len]; exact hf), List.getElem?_eq_getElem (by rw [h'.len]; exact hf)] at e
    exact congrArg some e
  · rw [List.getElem?_eq_none (by rw [h.len]; omega), List.getElem?_eq_none (by rw [h'.len]; omega)]
theorem Dst.zero {ags : List Ag} {used p : Nat} {L : List Nat} (h : Dst ags used p L) : L.getD 0 0 = 0 := by
  have h0 : nn 0 p = 0 := by unfold nn; simp
  have hc : Clr ags used p 0 := ⟨0, 0, .done h0⟩
  have hne : L.getD 0 0 ≠ farN := fun e => (h.far 0 (by omega)).1 e hc
  have := (h.way 0 (by omega) hne).2.2 0 0 (.done h0)
  omega
end Go.Proofs.YtofkhehcnfiopaaDoor.N
namespace Go.Proofs.YtofkhehcnfiopaaDoor.N
open Go Go.RowKit Go.Proofs
set_option linter.unusedSectionVars false
variable [I : Sys]
/-! What is asked of whatever agents and faults. -/
/-- What Farthest says. -/
def FarS (l : List RA) (p : Int) (n m E : Nat) : Prop :=
  (askedR l 0 p = 0 ∧ E = 0 ∧ ∃ L, Dst (agsOf l) (usedAll (agsOf l).length) p.toNat L ∧ n = (bestL L 64).1 ∧ m = (bestL L 64).2) ∨ (askedR l 0 p ≠ 0 ∧ E = askedR l 0 p ∧ n = 0 ∧ m = 0)
theorem FarS.unique {l : List RA} {p : Int} {n m E n' m' E' : Nat} (h : FarS l p n m E) (h' : FarS l p n' m' E') : n = n' ∧ m = m' ∧ E = E' := by
  rcases h with ⟨h0, rfl, L, hL, rfl, rfl⟩ | ⟨h0, rfl, rfl, rfl⟩
  · rcases h' with ⟨_, rfl, M, hM, rfl, rfl⟩ | ⟨h1, _⟩
    · obtain rfl := hL.unique hM
      exact ⟨rfl, rfl, rfl⟩
    · exact absurd h0 h1
  · rcases h' with ⟨h1, _⟩ | ⟨_, rfl, rfl, rfl⟩
    · exact absurd h1 h0
    · exact ⟨rfl, rfl, rfl⟩
end Go.Proofs.YtofkhehcnfiopaaDoor.N
namespace Go.Proofs.YtofkhehcnfiopaaDoor.N
open Go Go.RowKit Go.Proofs
set_option linter.unusedSectionVars false
variable [I : Sys]
/-! All ascending lists of k numbers, in their order. -/
def chsL (n : Nat) : Nat → Nat → List (List Nat)
  | 0, _ => [[]]
  | k + 1, f => (List.range' f (n - f)).flatMap fun i => (chsL n k (i + 1)).map (i :: ·)
/-- .. those whose first number is less than i. -/
def chsT (n k f i : Nat) : List (List Nat) := (List.range' f (i - f)).flatMap fun y => (chsL n k (y + 1)).map (y :: ·)
theorem chsT_self (n k f : Nat) : chsT n k f f = [] := by
  unfold chsT
  rw [Nat.sub_self]
  rfl
theorem chsT_succ {n k f i : Nat} (h : f ≤ i) : chsT n k f (i + 1) = chsT n k f i ++ (chsL n k (i + 1)).map (i :: ·) := by
  unfold chsT
  rw [show i + 1 - f = (i - f) + 1 by omega, List.range'_concat, List.flatMap_append, List.flatMap_singleton, show f + 1 * (i - f) = i by omega]
theorem chsT_end {n k f i : Nat} (hi : i = max f n) : chsT n k f i = chsL n (k + 1) f := by
  unfold chsT
  rw [show i - f = n - f by omega]
  rfl
theorem chs_mem {n : Nat} : ∀ {k f : Nat} {x : List Nat}, x ∈ chsL n k f → x.length = k ∧ ∀ i ∈ x, f ≤ i ∧ i < n
  | 0, f, x, h => by
    obtain rfl : x = [] := by simpa [chsL] using h
    exact ⟨rfl, fun i hi => absurd hi List.not_mem_nil⟩
  | k + 1, f, x, h => by
    obtain ⟨i, hi, h2⟩ := List.mem_flatMap.1 h
    obtain ⟨y, hy, rfl⟩ := List.mem_map.1 h2
    have hr := List.mem_range'_1.1 hi
    obtain ⟨h3, h4⟩ := chs_mem hy
    refine ⟨by simp [h3], fun j hj => ?_⟩
    rcases List.mem_cons.1 hj with rfl | hj
    · omega
    · have := h4 j hj
      omega
end Go.Proofs.YtofkhehcnfiopaaDoor.N
namespace Go.Proofs.YtofkhehcnfiopaaDoor.N
open Go Go.RowKit Go.Proofs
set_option linter.unusedSectionVars false
variable [I : Sys]
def onlyL (ags : List Ag) (l : List Nat) : List Ag := l.map fun i => ags.getD i default
/-- Some agents that do as much as all. -/
def asAll (ags : List Ag) (p : Nat) (l : List Nat) : Prop := ∀ m, m < 64 → (Clr (onlyL ags l) (usedAll (onlyL ags l).length) p m ↔ Clr ags (usedAll ags.length) p m)
structure SeenC (n : Nat) (P : List Nat → Prop) (k i : Nat) : Prop where
  less : ∀ j u, j < k → u ∈ chsL n j 0 → ¬ P u
  now : ∀ j u, j < i → (chsL n k 0)[j]? = some u → ¬ P u
theorem SeenC.start {n : Nat} {P : List Nat → Prop} : SeenC n P 0 0 := ⟨fun _ _ h => absurd h (Nat.not_lt_zero _), fun _ _ h => absurd h (Nat.not_lt_zero _)⟩
theorem SeenC.next {n k i : Nat} {P : List Nat → Prop} (h : SeenC n P k i) {v : List Nat} (hv : (chsL n k 0)[i]? = some v) (hp : ¬ P v) : SeenC n P k (i + 1) :=
  ⟨h.less, fun j u hj hu => by
    rcases Nat.lt_succ_iff_lt_or_eq.1 hj with h1 | rfl
    · exact h.now j u h1 hu
    · rw [hv] at hu
      cases hu
      exact hp⟩
theorem SeenC.round {n k i : Nat} {P : List Nat → Prop} (h : SeenC n P k i) (hi : (chsL n k 0).length ≤ i) : SeenC n P (k + 1) 0 :=
  ⟨fun j u hj hu => by
    rcases Nat.lt_succ_iff_lt_or_eq.1 hj with h1 | rfl
    · exact h.less j u h1 hu
    · obtain ⟨x, hx⟩ := List.getElem?_of_mem hu
      exact h.now x u (Nat.lt_of_lt_of_le (List.getElem?_eq_some_iff.1 hx).1 hi) hx, fun _ _ h => absurd h (Nat.not_lt_zero _)⟩
/-- The first list that does it, the shorter ones first. -/
def FewS (n : Nat) (P : List Nat → Prop) (W : List Nat) : Prop := ∃ k i, (chsL n k 0)[i]? = some W ∧ P W ∧ SeenC n P k i
theorem FewS.unique {n : Nat} {P : List Nat → Prop} {W V : List Nat} (h : FewS n P W) (h' : FewS n P V) : W = V := by
  obtain ⟨k, i, h1, h2, h3⟩ := h
  obtain ⟨k', i', h1', h2', h3'⟩ := h'
  rcases Nat.lt_trichotomy k k' with hk | rfl | hk
  · exact absurd h2 (h3'.less k W hk (List.mem_of_getElem? h1))
  · rcases Nat.lt_trichotomy i i' with hi | rfl | hi
    · exact absurd h2 (h3'.now i W hi h1)
    · rw [h1] at h1'
      exact Option.some.inj h1'
    · exact absurd h2' (h3.now i' V hi h1')
  · exact absurd h2' (h3.less k' V hk (List.mem_of_getElem? h1'))
theorem chs_short {n : Nat} : ∀ (k f : Nat), n < f + (k + 1) → chsL n (k + 1) f = []
  | 0, f, h => by
    unfold chsL
    rw [show n - f = 0 by omega]
    rfl
  | k + 1, f, h => by
    unfold chsL
    refine List.flatMap_eq_nil_iff.2 fun i hi => ?_
    have hr := List.mem_range'_1.1 hi
    rw [chs_short k (i + 1) (by omega)]
    rfl
/-- All agents. -/
theorem chs_all (n : Nat) : ∀ (k f : Nat), f + k = n → chsL n k f = [List.range' f k]
  | 0, f, _ => rfl
  | k + 1, f, h => by
    unfold chsL
    have e : List.range' f (n - f) = f :: List.range' (f + 1) k := by rw [show n - f = k + 1 by omega, List.range'_succ]
    rw [e, List.flatMap_cons, chs_all n k (f + 1) (by omega), List.map_cons, List.map_nil]
    have e2 : ((List.range' (f + 1) k).flatMap fun i => (chsL n k (i + 1)).map (i :: ·)) = [] := by
      refine List.flatMap_eq_nil_iff.2 fun i hi => ?_
      have hr := List.mem_range'_1.1 hi
      cases k with
      | zero => omega
      | succ k => rw [chs_short k (i + 1) (by omega)]; rfl
    rw [e2]
    rfl
theorem asAll_all {ags : List Ag} {p : Nat} : asAll ags p (List.range' 0 ags.length) := by
  have e : onlyL ags (List.range' 0 ags.length) = ags := by
    unfold onlyL
    apply List.ext_getElem?
    intro i
    rw [List.getElem?_map]
    by_cases hi : i < ags.length
    · rw [List.getElem?_range' hi, List.getElem?_eq_getElem hi]
      simp [List.getD_eq_getElem?_getD, hi]
    · rw [List.getElem?_eq_none (by simp; omega), List.getElem?_eq_none (by omega)]
      rfl
  intro m _
  rw [e]
end Go.Proofs.YtofkhehcnfiopaaDoor.N
namespace Go.Proofs.YtofkhehcnfiopaaDoor.N
open Go Go.RowKit Go.Proofs
set_option linter.unusedSectionVars false
variable [I : Sys]
/-- A set of agents as a number. -/
def maskL (l : List Nat) : Nat := l.foldl (fun s i => s ||| (1 <<< i)) 0
theorem maskL_snoc (l : List Nat) (i : Nat) : maskL (l ++ [i]) = maskL l ||| (1 <<< i) := by unfold maskL; rw [List.foldl_append]; rfl
theorem mask_bit : ∀ (l : List Nat) (s j : Nat), (l.foldl (fun s i => s ||| (1 <<< i)) s).testBit j = (s.testBit j || decide (j ∈ l))
  | [], s, j => by simp
  | i :: l, s, j => by
    rw [List.foldl_cons, mask_bit l _ j, Nat.testBit_or]
    have h : (1 <<< i).testBit j = decide (i = j) := by rw [Nat.one_shiftLeft, Nat.testBit_two_pow]
    rw [h]
    by_cases h1 : i = j
    · subst h1; simp
    · have h2 : ¬ j = i := fun e => h1 e.symm
      simp [h1, h2]
theorem maskL_bit (l : List Nat) (j : Nat) : (maskL l).testBit j = decide (j ∈ l) := by unfold maskL; rw [mask_bit]; simp
theorem maskL_lt {l : List Nat} {n : Nat} (h : ∀ i ∈ l, i < n) : maskL l < 2 ^ n := by
  have key : ∀ (l : List Nat) (s : Nat), (∀ i ∈ l, i < n) → s < 2 ^ n → l.foldl (fun s i => s ||| (1 <<< i)) s < 2 ^ n := by
    intro l
    induction l with
    | nil => intro s _ hs; exact hs
    | cons i l ih =>
      intro s hl hs
      rw [List.foldl_cons]
      refine ih _ (fun j hj => hl j (by simp [hj])) (Nat.or_lt_two_pow hs ?_)
      rw [Nat.one_shiftLeft]
      exact Nat.pow_lt_pow_right (by omega) (hl i (by simp))
  exact key l 0 h (Nat.two_pow_pos n)
theorem maskL_lt16 {l : List Nat} (h : ∀ i ∈ l, i < 4) : maskL l < 16 := maskL_lt (n := 4) h
/-- An ascending list is what its set is read out as. -/
theorem chs_sorted {n : Nat} : ∀ {k f : Nat} {x : List Nat}, x ∈ chsL n k f → x.Pairwise (· < ·)
  | 0, f, x, h => by
    obtain rfl : x = [] := by simpa [chsL] using h
    exact .nil
  | k + 1, f, x, h => by
    obtain ⟨i, hi, h2⟩ := List.mem_flatMap.1 h
    obtain ⟨y, hy, rfl⟩ := List.mem_map.1 h2
    exact .cons (fun j hj => by have := (chs_mem hy).2 j hj; omega) (chs_sorted hy)
/-- What has been read out so far. -/
def outL (l : List Nat) (k : Nat) : List Nat := (List.range k).filter fun i => decide (i ∈ l)
theorem outL_yes {l : List Nat} {k : Nat} (h : k ∈ l) : outL l (k + 1) = outL l k ++ [k] := by
  unfold outL
  rw [List.range_succ, List.filter_append]
  simp [h]
theorem outL_no {l : List Nat} {k : Nat} (h : k ∉ l) : outL l (k + 1) = outL l k := by
  unfold outL
  rw [List.range_succ, List.filter_append]
  simp [h]
theorem outL_len (l : List Nat) (k : Nat) : (outL l k).length ≤ k := by
  unfold outL
  exact Nat.le_trans (List.length_filter_le _ _) (by simp)
theorem sorted_ext : ∀ {x y : List Nat}, x.Pairwise (· < ·) → y.Pairwise (· < ·) → (∀ i, i ∈ x ↔ i ∈ y) → x = y
  | [], [], _, _, _ => rfl
  | [], b :: y, _, _, h => absurd ((h b).2 (by simp)) (by simp)
  | a :: x, [], _, _, h => absurd ((h a).1 (by simp)) (by simp)
  | a :: x, b :: y, hx, hy, h => by
    have hx1 := List.pairwise_cons.1 hx
    have hy1 := List.pairwise_cons.1 hy
    obtain rfl : a = b := by
      rcases List.mem_cons.1 ((h a).1 (by simp)) with h1 | h1
      · exact h1
      · have h2 := hy1.1 a h1
        rcases List.mem_cons.1 ((h b).2 (by simp)) with h3 | h3
        · omega
        · have := hx1.1 b h3
          omega
    congr 1
    refine sorted_ext hx1.2 hy1.2 fun i => ?_
    constructor
    · intro hi
      rcases List.mem_cons.1 ((h i).1 (by simp [hi])) with h1 | h1
      · have := hx1.1 i hi; omega
      · exact h1
    · intro hi
      rcases List.mem_cons.1 ((h i).2 (by simp [hi])) with h1 | h1
      · have := hy1.1 i hi; omega
      · exact h1
theorem range_sorted (n : Nat) : (List.range n).Pairwise (· < ·) := by
  rw [List.range_eq_range']
  exact List.pairwise_lt_range'
theorem outL_all {l : List Nat} {n : Nat} (hs : l.Pairwise (· < ·)) (h : ∀ i ∈ l, i < n) : outL l n = l :=
  sorted_ext ((range_sorted n).filter _) hs fun i => by
    unfold outL
    rw [List.mem_filter, List.mem_range]
    exact ⟨fun hi => by simpa using hi.2, fun hi => ⟨h i hi, by simpa using hi⟩⟩
/-- With some agents alone. -/
theorem only_clr {ags : List Ag} {l : List Nat} {p f : Nat} (h : ∀ i ∈ l, i < ags.length) : Clr (onlyL ags l) (usedAll (onlyL ags l).length) p f ↔ Clr ags (maskL l) p f := by
  have hus : ∀ x, Us ags (maskL l) x ↔ x ∈ onlyL ags l := by
    intro x
    constructor
    · rintro ⟨i, h1, h2, rfl⟩
      rw [maskL_bit] at h2
      exact List.mem_map.2 ⟨i, of_decide_eq_true h2, rfl⟩
    · intro hx
      obtain ⟨i, hi, rfl⟩ := List.mem_map.1 hx
      exact ⟨i, h i hi, by rw [maskL_bit]; exact decide_eq_true hi, rfl⟩
  constructor
  · exact Clr.mono (fun x hx => (hus x).2 (us_all.1 hx)) (fun _ h => h)
  · exact Clr.mono (fun x hx => us_all.2 ((hus x).1 hx)) (fun _ h => h)
theorem sets_eq {ags : List Ag} {l : List Nat} {p n m : Nat} (h : ∀ i ∈ l, i < ags.length) (hn : SetN n (Clr ags (maskL l) p)) (hm : SetN m (Clr ags (usedAll ags.length) p)) : (n : Int) = (m : Int) ↔ asAll ags p l := by
  constructor
  · intro e f hf
    have e' : n = m := by omega
    subst e'
    rw [only_clr h, ← hn.2 f hf, ← hm.2 f hf]
  · intro ha
    have : SetN n (Clr ags (usedAll ags.length) p) := ⟨hn.1, fun f hf => by rw [hn.2 f hf, ← only_clr h]; exact ha f hf⟩
    have := this.eq hm
    omega
end Go.Proofs.YtofkhehcnfiopaaDoor.N
namespace Go.Proofs.YtofkhehcnfiopaaDoor.N
open Go Go.RowKit Go.Proofs
set_option linter.unusedSectionVars false
variable [I : Sys] [R : Rea]
theorem F.ent105 : Enters Tryd.prog 105 := enters_of Tryd.func105 rfl (by kernel_rfl)
theorem Reach_ok (A : Option Addr) (c : Nat) (ags : List Ag) (hok : Oks ags) (f : Nat) (hf : f < 64) (w : World) (hA : RdL Ag.cells 5 w A ags) (hR : Rdy w) : Calls Tryd.prog 59 #[.slice A ags.length c, .int .i64 (f : Int)] w fun e w' => ∃ A' c', e = .returned (.tuple #[.slice A' (rchL ags f).length c', .int .i64 0]) ∧ Grew w w' [.row 3 1 A' (rchL ags f).length c' (ints (rchL ags f))] := by
  have hua : usedAll ags.length < 256 := by have := usedAll_lt hok.1; omega
  refine enter_defers (N := 14) [(0, .slice A ags.length c), (1, .int .i64 (f : Int))] Tryd.func59 rfl Tryd.ntmps59 rfl rfl ?_
  refine cod_seq ?_
  refine cod_region ?_
  refine lst_assign rfl rfl ?_
  refine lst_alloc rfl F.ti35 ?_
  intro b5
  refine lst_nil ?_
  refine ex_then ?_
  refine cod_seq ?_
  refine cod_region ?_
  refine lst_defer (first := []) (cap := []) (vs := [_]) rfl rfl ?_
  refine lst_nil ?_
  refine ex_then ?_
  refine cod_seq ?_
  refine cod_region ?_
  refine lst_move rfl rfl ?_
  refine lst_fn (X := Option Addr × Nat) (vs := [_]) (p := fun _ => True) (val := fun x => .agg [.slice x.1 ags.length x.2, .int .u8 (usedAll ags.length : Nat)].toArray) (rs := fun x => [.row 89 5 x.1 ags.length x.2 (ags.flatMap Ag.cells)]) rfl rfl F.ent75 (fun a w ha => (begin_ok A c ags hok w (hA.later ha.below)).mono (fun e w' h => by obtain ⟨A', c', h1, h2⟩ := h; exact ⟨(A', c'), trivial, h1, h2⟩)) ?_
  rintro ⟨aA, cg⟩ -
  dsimp only [List.cons_append, List.nil_append]
  refine lst_alloc rfl F.ti75 ?_
  intro b6
  refine lst_store rfl rfl F.ti75 rfl ?_
  refine lst_nil ?_
  refine ex_then ?_
  refine cod_seq ?_
  refine any_begin [.b b5] F.follows 7 rfl [false, false, false, false, false, false, false] rfl ?_
  refine any_tk 0 rfl rfl rfl (yld_loadN rfl F.agg75 F.ti75) ?_
  refine any_tk 1 rfl rfl rfl (yld_move rfl) ?_
  refine any_one 2 (by kernel_rfl) rfl rfl ?_
  refine lst_fn0 (vs := [_]) rfl rfl F.ent76 (fun a w ha => melt_ok f hf w) ?_
  refine lst_nil ?_
  refine any_next sbl ?_
  refine any_one 3 (by kernel_rfl) rfl rfl ?_
  refine lst_fn (X := Nat) (vs := [_, _]) (p := fun n => SetN n (Rch ags (usedAll ags.length) f)) (val := fun n => .int .u64 (n : Int)) (rs := fun _ => []) rfl rfl F.ent105 (fun a w ha => reach_in rfl hok hua hf hR (cg := cg) (by simp) ha) ?_
  intro n hset
  dsimp only [List.nil_append] at hset ⊢
  refine lst_nil ?_
  refine any_next sbl ?_
  refine any_one 4 (by kernel_rfl) rfl rfl ?_
  refine lst_fn (X := Option Addr × Nat) (vs := [_]) (p := fun _ => True) (val := fun x => .slice x.1 (rchL ags f).length x.2) (rs := fun x => [.row 3 1 x.1 (rchL ags f).length x.2 (ints (rchL ags f))]) rfl rfl F.ent101 (fun a w ha => (mlist_c n hset.1 w).mono (fun e w' h => by obtain ⟨A', c', h1, h2⟩ := h; rw [listN_flt hset] at h1 h2; exact ⟨(A', c'), trivial, h1, h2⟩)) ?_
  rintro ⟨lA, lc⟩ -
  dsimp only [List.cons_append, List.nil_append]
  refine lst_nil ?_
  refine any_next sbl ?_
  refine any_tk 5 rfl rfl rfl (yld_assign rfl) ?_
  refine any_one 6 (by kernel_rfl) rfl rfl ?_
  refine lst_store rfl rfl F.ti35 rfl ?_
  refine lst_nil ?_
  refine any_next sbl ?_
  refine any_done rfl (by kernel_rfl) ?_
  refine ex_then ?_
  refine cod_ret ?_
  exact ex_ret_caught (fun a w ha => ⟨_, res_tc (fn := Tryd.f59) ha rfl rfl rfl F.one35, lA, lc, rfl, ha.grown sbl⟩)

end Go.Proofs.YtofkhehcnfiopaaDoor.N
namespace Go.Proofs.YtofkhehcnfiopaaDoor.N
open Go Go.RowKit Go.Proofs
set_option linter.unusedSectionVars false
variable [I : Sys] [R : Rea]
/-! The law's own search: a list that grows while it is read. -/
structure MB (ags : List Ag) (f : Nat) (met : List Nat) (i k : Nat) : Prop where
  nodup : met.Nodup
  sound : ∀ y ∈ met, Rch ags (usedAll ags.length) f y
  self : f ∈ met
  done : ∀ (j y : Nat), j < i → met[j]? = some y → ∀ a ∈ canTo ags (usedAll ags.length) y ags.length, putN (ags.getD a default) y ∈ met
  part : ∀ y : Nat, met[i]? = some y → ∀ a, a < k → a ∈ canTo ags (usedAll ags.length) y ags.length → putN (ags.getD a default) y ∈ met
section
variable {ags : List Ag} {f i k : Nat} {met : List Nat}
theorem MB.first : MB ags f [f] 0 0 := ⟨by simp, fun y hy => by simp at hy; subst hy; exact .base, by simp, fun j y hj => absurd hj (by omega), fun y _ a ha => absurd ha (by omega)⟩
theorem MB.le (h : MB ags f met i k) (hok : Oks ags) (hf : f < 64) : met.length ≤ 64 := nodup_le 64 met h.nodup fun x hx => (h.sound x hx).lt hok hf
theorem MB.skip (h : MB ags f met i k) {y : Nat} (hy : met[i]? = some y) (hn : k ∈ canTo ags (usedAll ags.length) y ags.length → putN (ags.getD k default) y ∈ met) : MB ags f met i (k + 1) := by
  refine ⟨h.nodup, h.sound, h.self, h.done, fun z hz a ha hc => ?_⟩
  rw [hy] at hz
  cases hz
  rcases Nat.lt_or_ge a k with h1 | h1
  · exact h.part y hy a h1 hc
  · obtain rfl : a = k := by omega
    exact hn hc
theorem MB.add (h : MB ags f met i k) {y : Nat} (hy : met[i]? = some y) (hc : k ∈ canTo ags (usedAll ags.length) y ags.length) (hn : putN (ags.getD k default) y ∉ met) : MB ags f (met ++ [putN (ags.getD k default) y]) i (k + 1) := by
  have hil : i < met.length := (List.getElem?_eq_some_iff.1 hy).1
  have old : ∀ (j z : Nat), j ≤ i → (met ++ [putN (ags.getD k default) y])[j]? = some z → met[j]? = some z := fun j z hj hz => by rwa [List.getElem?_append_left (by omega)] at hz
  refine ⟨?_, fun z hz => ?_, List.mem_append.2 (.inl h.self), fun j z hj hz a ha => List.mem_append.2 (.inl (h.done j z hj (old j z (by omega) hz) a ha)), fun z hz a ha hca => ?_⟩
  · rw [List.nodup_append]
    exact ⟨h.nodup, by simp, fun x hx z hz e => by simp at hz; subst hz; subst e; exact hn hx⟩
  · rcases List.mem_append.1 hz with h1 | h1
    · exact h.sound z h1
    · simp at h1; subst h1; exact (h.sound y (List.mem_of_getElem? hy)).step hc
  · have hz' := old i z (Nat.le_refl _) hz
    rcases Nat.lt_or_ge a k with h1 | h1
    · exact List.mem_append.2 (.inl (h.part z hz' a h1 hca))
    · obtain rfl : a = k := by omega
      rw [hy] at hz'
      cases hz'
      simp
theorem MB.row (h : MB ags f met i ags.length) : MB ags f met (i + 1) 0 := by
  refine ⟨h.nodup, h.sound, h.self, fun j y hj hy a ha => ?_, fun y _ a ha => absurd ha (by omega)⟩
  rcases Nat.lt_or_ge j i with h1 | h1
  · exact h.done j y h1 hy a ha
  · obtain rfl : j = i := by omega
    exact h.part y hy a (can_mem.1 ha).1 ha
theorem MB.all (h : MB ags f met met.length 0) {y : Nat} : y ∈ met ↔ Rch ags (usedAll ags.length) f y := by
  refine ⟨h.sound y, fun hr => ?_⟩
  induction hr with
  | base => exact h.self
  | step _ hi ih =>
    obtain ⟨j, hj⟩ := List.mem_iff_getElem?.1 ih
    exact h.done j _ (List.getElem?_eq_some_iff.1 hj).1 hj _ hi
theorem nodup_sub_len : ∀ (l m : List Nat), l.Nodup → (∀ x ∈ l, x ∈ m) → l.length ≤ m.length
  | [], _, _, _ => Nat.zero_le _
  | a :: l, m, h, hs => by
    have h1 := nodup_sub_len l (m.erase a) (List.nodup_cons.1 h).2 fun x hx => (List.mem_erase_of_ne (fun e => (List.nodup_cons.1 h).1 (by rw [← e]; exact hx))).2 (hs x (List.mem_cons_of_mem _ hx))
    rw [List.length_erase_of_mem (hs a (by simp))] at h1
    have := List.length_pos_of_mem (hs a (by simp))
    simp only [List.length_cons]
    omega
theorem rchL_sorted (ags : List Ag) (f : Nat) : (rchL ags f).Pairwise (· < ·) := List.Pairwise.sublist List.filter_sublist List.pairwise_lt_range
theorem rchL_nodup (ags : List Ag) (f : Nat) : (rchL ags f).Nodup := (rchL_sorted ags f).imp fun h => Nat.ne_of_lt h
theorem MB.length (h : MB ags f met met.length 0) (hok : Oks ags) (hf : f < 64) : met.length = (rchL ags f).length :=
  Nat.le_antisymm (nodup_sub_len _ _ h.nodup fun x hx => (rchL_mem hok hf).2 (h.all.1 hx)) (nodup_sub_len _ _ (rchL_nodup ags f) fun x hx => h.all.2 ((rchL_mem hok hf).1 hx))
end
end Go.Proofs.YtofkhehcnfiopaaDoor.N
namespace Go.Proofs.YtofkhehcnfiopaaDoor.N
open Go Go.RowKit Go.Proofs
set_option linter.unusedSectionVars false
variable [I : Sys] [R : Rea]
theorem F.ent59 : Enters Tryd.prog 59 := enters_of Tryd.func59 rfl (by kernel_rfl)
end Go.Proofs.YtofkhehcnfiopaaDoor.N
namespace Go.Proofs.YtofkhehcnfiopaaDoor.N
open Go Go.RowKit Go.Proofs
set_option linter.unusedSectionVars false
variable [I : Sys] [R : Rea]
section
variable {ags : List Ag} {a p k i : Nat} {v : List Nat} {o : Option Wk}
theorem sho_63 (hok : Oks ags) (ha : a < 64) (hf : FoundO ags (usedAll ags.length) 1 (-1) (a, 0, 0) (fun t => decide (nn t.1 p = 0)) o) : (wayO o).how.length ≤ 63 := by
  cases o with
  | none => exact Nat.zero_le _
  | some kk =>
    obtain ⟨s1, s2, s3⟩ := short_spec hf
    obtain ⟨c, hw⟩ := s2.resolve_right (by simp)
    have h3 := s3.resolve_left (by simp)
    obtain ⟨c', k', ho⟩ := Opt.ex hw
    have h63 := Opt.short hok ha ho
    have := h3 _ _ ho.1
    omega
end
end Go.Proofs.YtofkhehcnfiopaaDoor.N
namespace Go.Proofs.YtofkhehcnfiopaaDoor.N
open Go Go.RowKit Go.Proofs
set_option linter.unusedSectionVars false
variable [I : Sys] [R : Rea]
/-! What the reference's rounds and its choices come to: melts that are reached, the first shortest way, the first cheapest way. -/
section
variable {ags : List Ag} {f : Nat}
def Cls (ags : List Ag) (B : List Bool) : Prop := ∀ y j, B.getD y false = true → j ∈ canTo ags (usedAll ags.length) y ags.length → B.getD (putN (ags.getD j default) y) false = true
structure MtI (ags : List Ag) (f r m i : Nat) (B : List Bool) : Prop where
  len : B.length = 64
  base : B.getD f false = true
  snd : ∀ g, B.getD g false = true → Rch ags (usedAll ags.length) f g
  ent : r + 1 ≤ B.countP id ∨ Cls ags B
  prg : r + 2 ≤ B.countP id ∨ ∀ y j, (y < m ∨ (y = m ∧ j < i)) → B.getD y false = true → j ∈ canTo ags (usedAll ags.length) y ags.length → B.getD (putN (ags.getD j default) y) false = true
theorem getB_set {B : List Bool} {k g : Nat} {x : Bool} (hk : k < B.length) : (B.set k x).getD g false = if k = g then x else B.getD g false := by
  rw [List.getD_eq_getElem?_getD, List.getElem?_set, List.getD_eq_getElem?_getD]
  by_cases e : k = g
  · subst e
    rw [if_pos rfl, if_pos rfl, if_pos hk]; rfl
  · rw [if_neg e, if_neg e]
theorem set_same {B : List Bool} {k : Nat} (hk : k < B.length) (h : B.getD k false = true) : B.set k true = B := by
  apply List.ext_getElem?
  intro g
  rw [List.getElem?_set]
  by_cases e : k = g
  · subst e
    rw [if_pos rfl, if_pos hk]
    rw [List.getD_eq_getElem?_getD, List.getElem?_eq_getElem hk] at h
    rw [List.getElem?_eq_getElem hk]
    exact congrArg some h.symm
  · rw [if_neg e]
theorem cnt_set : ∀ {B : List Bool} {k : Nat}, k < B.length → B.getD k false = false → (B.set k true).countP id = B.countP id + 1
  | [], k, h, _ => absurd h (Nat.not_lt_zero _)
  | b :: B, 0, _, h => by
    obtain rfl : b = false := h
    simp
  | b :: B, k + 1, h, h2 => by
    have ih := cnt_set (B := B) (k := k) (Nat.lt_of_succ_lt_succ h) h2
    rw [List.set_cons_succ, List.countP_cons, List.countP_cons, ih]
    omega
theorem MtI.start (hf : f < 64) : MtI ags f 0 0 0 ((List.replicate 64 false).set f true) where
  len := by simp
  base := by rw [getB_set (by simpa using hf), if_pos rfl]
  snd g h := by
    rw [getB_set (by simpa using hf)] at h
    by_cases e : f = g
    · subst e; exact .base
    · rw [if_neg e, List.getD_eq_getElem?_getD, List.getElem?_replicate] at h
      split at h <;> cases h
  ent := .inl (by
    rw [cnt_set (by simpa using hf) (by rw [List.getD_eq_getElem?_getD, List.getElem?_replicate, if_pos hf]; rfl)]
    omega)
  prg := .inr fun y j h => by omega
theorem MtI.skip {r m i : Nat} {B : List Bool} (h : MtI ags f r m i B) (hi : B.getD m false = true → i ∉ canTo ags (usedAll ags.length) m ags.length) : MtI ags f r m (i + 1) B :=
  { h with
    prg := h.prg.imp_right fun hp y j hj hy hc => by
      rcases hj with h1 | ⟨rfl, h1⟩
      · exact hp y j (.inl h1) hy hc
      · rcases Nat.lt_succ_iff_lt_or_eq.1 h1 with h2 | rfl
        · exact hp y j (.inr ⟨rfl, h2⟩) hy hc
        · exact absurd hc (hi hy) }
theorem MtI.put {r m i : Nat} {B : List Bool} (h : MtI ags f r m i B) (hm : B.getD m false = true) (hi : i ∈ canTo ags (usedAll ags.length) m ags.length) (hg : putN (ags.getD i default) m < 64) :
    MtI ags f r m (i + 1) (B.set (putN (ags.getD i default) m) true) := by
  have hgl : putN (ags.getD i default) m < B.length := by rw [h.len]; exact hg
  cases hb : B.getD (putN (ags.getD i default) m) false with
  | true =>
    rw [set_same hgl hb]
    exact { h with
      prg := h.prg.imp_right fun hp y j hj hy hc => by
        rcases hj with h1 | ⟨rfl, h1⟩
        · exact hp y j (.inl h1) hy hc
        · rcases Nat.lt_succ_iff_lt_or_eq.1 h1 with h2 | rfl
          · exact hp y j (.inr ⟨rfl, h2⟩) hy hc
          · exact hb }
  | false =>
    have hcn := cnt_set hgl hb
    have he : r + 1 ≤ B.countP id := h.ent.resolve_right fun hc => by
      have := hc m i hm hi
      rw [hb] at this
      cases this
    refine ⟨by rw [List.length_set]; exact h.len, ?_, fun g hgt => ?_, .inl (by omega), .inl (by omega)⟩
    · rw [getB_set hgl]
      split
      · rfl
      · exact h.base
    · rw [getB_set hgl] at hgt
      by_cases e : putN (ags.getD i default) m = g
      · subst e
        exact (h.snd m hm).step hi
      · rw [if_neg e] at hgt
        exact h.snd g hgt
theorem MtI.next {r m : Nat} {B : List Bool} (h : MtI ags f r m ags.length B) : MtI ags f r (m + 1) 0 B :=
  { h with
    prg := h.prg.imp_right fun hp y j hj hy hc => by
      have hjl := (can_mem.1 hc).1
      rcases hj with h1 | ⟨_, h1⟩
      · rcases Nat.lt_succ_iff_lt_or_eq.1 h1 with h2 | rfl
        · exact hp y j (.inl h2) hy hc
        · exact hp y j (.inr ⟨rfl, hjl⟩) hy hc
      · exact absurd h1 (Nat.not_lt_zero _) }
theorem MtI.round {r : Nat} {B : List Bool} (h : MtI ags f r 64 0 B) : MtI ags f (r + 1) 0 0 B :=
  { h with
    ent := h.prg.imp_right fun hp y j hy hc => hp y j (.inl (by
      rcases Nat.lt_or_ge y 64 with h1 | h1
      · exact h1
      · rw [List.getD_eq_getElem?_getD, List.getElem?_eq_none (by rw [h.len]; exact h1)] at hy
        cases hy)) hy hc
    prg := .inr fun y j h => by omega }
end
/-! Bytes of truth in a row. -/
/-! The words' codes. -/
theorem code_cons (n : Nat) (i : Nat) : ∀ (k : Nat) (v : List Nat), v.length = k → code n (i :: v) = (i + 1) * n ^ k + code n v
  | 0, v, h => by
    obtain rfl := List.length_eq_zero_iff.1 h
    simp [code]
  | k + 1, v, h => by
    obtain ⟨u, x, rfl⟩ : ∃ u x, v = u ++ [x] := ⟨v.dropLast, v.getLast (by intro e; subst e; simp at h), (List.dropLast_concat_getLast _).symm⟩
    have hu : u.length = k := by simpa using h
    have ih := code_cons n i k u hu
    rw [show i :: (u ++ [x]) = (i :: u) ++ [x] from rfl, code_snoc, code_snoc, ih, Nat.pow_succ, Nat.add_mul, Nat.mul_assoc]
    omega
theorem code_near (n : Nat) : ∀ (k : Nat) (v u : List Nat), v.length = k → u.length = k → Wd n v → code n v < code n u + n ^ k
  | 0, v, u, h, h', _ => by
    obtain rfl := List.length_eq_zero_iff.1 h
    obtain rfl := List.length_eq_zero_iff.1 h'
    simp
  | k + 1, a :: v, b :: u, h, h', hv => by
    have h1 : v.length = k := by simpa using h
    have h2 : u.length = k := by simpa using h'
    rw [code_cons n a k v h1, code_cons n b k u h2]
    have ih := code_near n k v u h1 h2 (fun i hi => hv i (List.mem_cons_of_mem _ hi))
    have ha : a + 1 ≤ n := hv a (List.mem_cons_self ..)
    have h3 : (a + 1) * n ^ k ≤ n * n ^ k := Nat.mul_le_mul_right _ ha
    have h4 : n ^ k ≤ (b + 1) * n ^ k := Nat.le_mul_of_pos_left _ (Nat.succ_pos _)
    rw [Nat.pow_succ, Nat.mul_comm (n ^ k) n]
    omega
theorem code_head {n k i j : Nat} {v u : List Nat} (hv : v.length = k) (hu : u.length = k) (hw : Wd n v) (h : i < j) : code n (i :: v) < code n (j :: u) := by
  rw [code_cons n i k v hv, code_cons n j k u hu]
  have h1 := code_near n k v u hv hu hw
  have h2 : (i + 1) * n ^ k + n ^ k ≤ (j + 1) * n ^ k := by
    rw [← Nat.succ_mul]
    exact Nat.mul_le_mul_right _ (by omega)
  omega
/-- The way that is chosen: at each melt the first agent with which it is as short as it can be. -/
inductive Sn (ags : List Ag) (L : List Nat) : Nat → List Nat → Prop
  | done {f : Nat} (h : L.getD f 0 = 0) : Sn ags L f []
  | step {f i : Nat} {W : List Nat} (hi : i ∈ canTo ags (usedAll ags.length) f ags.length) (he : L.getD (putN (ags.getD i default) f) 0 + 1 = L.getD f 0)
      (hm : ∀ j ∈ canTo ags (usedAll ags.length) f ags.length, j < i → L.getD (putN (ags.getD j default) f) 0 + 1 ≠ L.getD f 0) (hW : Sn ags L (putN (ags.getD i default) f) W) : Sn ags L f (i :: W)
section
variable {ags : List Ag} {p f : Nat} {L W : List Nat}
theorem Sn.len (h : Sn ags L f W) : W.length = L.getD f 0 := by
  induction h with
  | done h => exact h.symm
  | step _ he _ _ ih => rw [List.length_cons, ih]; exact he
theorem Sn.wd (h : Sn ags L f W) : Wd ags.length W := by
  induction h with
  | done _ => exact fun i hi => by cases hi
  | step hi _ _ _ ih =>
    intro x hx
    rcases List.mem_cons.1 hx with rfl | hx
    · exact (can_mem.1 hi).1
    · exact ih x hx
theorem Dst.zero_of (hD : Dst ags (usedAll ags.length) p L) (hf : f < 64) (h : L.getD f 0 = 0) : nn f p = 0 := by
  obtain ⟨_, ⟨c, hw⟩, _⟩ := hD.way f hf (by rw [h]; decide)
  rw [h] at hw
  cases hw with
  | done h => exact h
theorem Dst.near (hD : Dst ags (usedAll ags.length) p L) (hf : f < 64) {i : Nat} (hi : i ∈ canTo ags (usedAll ags.length) f ags.length) (hg : putN (ags.getD i default) f < 64) (hn : L.getD (putN (ags.getD i default) f) 0 ≠ farN) : L.getD f 0 ≤ L.getD (putN (ags.getD i default) f) 0 + 1 := by
  obtain ⟨_, ⟨c, hw⟩, _⟩ := hD.way _ hg hn
  have hc : L.getD f 0 ≠ farN := fun e => (hD.far f hf).1 e ⟨_, _, .step hi hw⟩
  exact (hD.way f hf hc).2.2 _ _ (.step hi hw)
theorem Dst.next (hok : Oks ags) (hD : Dst ags (usedAll ags.length) p L) (hf : f < 64) (hn : L.getD f 0 ≠ farN) (h0 : 0 < L.getD f 0) : ∃ i ∈ canTo ags (usedAll ags.length) f ags.length, L.getD (putN (ags.getD i default) f) 0 + 1 = L.getD f 0 := by
  obtain ⟨_, ⟨c, hw⟩, _⟩ := hD.way f hf hn
  obtain ⟨k, hk⟩ : ∃ k, L.getD f 0 = k + 1 := ⟨L.getD f 0 - 1, by omega⟩
  rw [hk] at hw
  cases hw with
  | @step _ i c k hi hw =>
    have hg : putN (ags.getD i default) f < 64 := putN_lt (agd_ok hok (can_mem.1 hi).1) hf
    have hgn : L.getD (putN (ags.getD i default) f) 0 ≠ farN := fun e => (hD.far _ hg).1 e ⟨_, _, hw⟩
    have h1 := (hD.way _ hg hgn).2.2 _ _ hw
    have h2 := hD.near hf hi hg hgn
    exact ⟨i, hi, by omega⟩
theorem Sn.first (hok : Oks ags) (hD : Dst ags (usedAll ags.length) p L) (hf : f < 64) (h : Sn ags L f W) (hn : L.getD f 0 ≠ farN) :
    (∃ t, run (stepT ags (usedAll ags.length) 1) (f, 0, 0) W = some t ∧ decide (nn t.1 p = 0) = true) ∧ ∀ u t, run (stepT ags (usedAll ags.length) 1) (f, 0, 0) u = some t → decide (nn t.1 p = 0) = true → code ags.length W ≤ code ags.length u := by
  induction h with
  | @done f h => exact ⟨⟨(f, 0, 0), rfl, decide_eq_true (hD.zero_of hf h)⟩, fun u t _ _ => Nat.zero_le _⟩
  | @step f i W hi he hm hW ih =>
    have hg : putN (ags.getD i default) f < 64 := putN_lt (agd_ok hok (can_mem.1 hi).1) hf
    have hgn : L.getD (putN (ags.getD i default) f) 0 ≠ farN := by
      have := (hD.way f hf hn).1
      unfold farN
      omega
    obtain ⟨⟨t, h1, h2⟩, h3⟩ := ih hg hgn
    refine ⟨⟨t, ?_, h2⟩, fun u t2 hr hgo => ?_⟩
    · show (stepT ags (usedAll ags.length) 1 (f, 0, 0) i).bind (fun t => run (stepT ags (usedAll ags.length) 1) t W) = _
      rw [step_one, if_pos hi]
      exact h1
    · have hu := run_wd _ stepT_none u _ t2 hr
      have hlu : L.getD f 0 ≤ u.length := by
        obtain ⟨c, hw⟩ := run_wy u f 0 0 t2 hr (of_decide_eq_true hgo)
        exact (hD.way f hf hn).2.2 _ _ hw
      have hlw := hW.len
      rcases Nat.lt_or_ge (L.getD f 0) u.length with hl | hl
      · exact Nat.le_of_lt (code_lt_of_len ags.length u.length u _ rfl (by rw [List.length_cons]; omega) (Sn.wd (.step hi he hm hW)))
      · match u, hr, hlu, hl with
        | [], _, hlu, _ => rw [List.length_nil] at hlu; omega
        | j :: u, hr, hlu, hl =>
          have hul : u.length = W.length := by rw [List.length_cons] at hlu hl; omega
          have hr' : (stepT ags (usedAll ags.length) 1 (f, 0, 0) j).bind (fun t => run (stepT ags (usedAll ags.length) 1) t u) = some t2 := hr
          rw [step_one] at hr'
          by_cases hj : j ∈ canTo ags (usedAll ags.length) f ags.length
          · rw [if_pos hj] at hr'
            have hr2 : run (stepT ags (usedAll ags.length) 1) (putN (ags.getD j default) f, 0, 0) u = some t2 := hr'
            rcases Nat.lt_trichotomy i j with h4 | rfl | h4
            · exact Nat.le_of_lt (code_head rfl hul hW.wd h4)
            · have := h3 u t2 hr2 hgo
              rw [code_cons _ i _ W rfl, code_cons _ i _ u rfl, hul]
              omega
            · exfalso
              have hgj : putN (ags.getD j default) f < 64 := putN_lt (agd_ok hok (can_mem.1 hj).1) hf
              obtain ⟨c, hw⟩ := run_wy u _ 0 0 t2 hr2 (of_decide_eq_true hgo)
              have hjn : L.getD (putN (ags.getD j default) f) 0 ≠ farN := fun e => (hD.far _ hgj).1 e ⟨_, _, hw⟩
              have h5 := (hD.way _ hgj hjn).2.2 _ _ hw
              have h6 := hD.near hf hj hgj hjn
              exact hm j hj h4 (by omega)
          · rw [if_neg hj] at hr'
            cases hr'
end
/-- What is said of the shortest way. -/
structure ShQ (ags : List Ag) (p f : Nat) (W : List Nat) (E : Nat) : Prop where
  yes : E = 0 → W.length ≤ 63 ∧ IsFirst (stepT ags (usedAll ags.length) 1) ags.length (-1) (f, 0, 0) (fun t => decide (nn t.1 p = 0)) W
  no : E ≠ 0 → E = 11 ∧ W = [] ∧ ¬ Clr ags (usedAll ags.length) p f
theorem ShQ.uniq {ags : List Ag} {p f : Nat} {W W' : List Nat} {E E' : Nat} (h : ShQ ags p f W E) (h' : ShQ ags p f W' E') : W = W' ∧ E = E' := by
  have clr : ∀ {W : List Nat}, IsFirst (stepT ags (usedAll ags.length) 1) ags.length (-1) (f, 0, 0) (fun t => decide (nn t.1 p = 0)) W → Clr ags (usedAll ags.length) p f := fun h => by
    obtain ⟨⟨t, h1, h2⟩, _⟩ := h
    obtain ⟨c, hw⟩ := run_wy _ _ 0 0 t h1 (of_decide_eq_true h2)
    exact ⟨c, _, hw⟩
  by_cases e : E = 0
  · by_cases e' : E' = 0
    · exact ⟨IsFirst.unique (stepT ags (usedAll ags.length) 1) stepT_none (h.yes e).2 (h'.yes e').2, by omega⟩
    · exact absurd (clr (h.yes e).2) (h'.no e').2.2
  · by_cases e' : E' = 0
    · exact absurd (clr (h'.yes e').2) (h.no e).2.2
    · obtain ⟨h1, h2, _⟩ := h.no e
      obtain ⟨h3, h4, _⟩ := h'.no e'
      exact ⟨by rw [h2, h4], by omega⟩
theorem found_shq {ags : List Ag} {p f : Nat} {o : Option Wk} (hok : Oks ags) (hf : f < 64) (h : FoundO ags (usedAll ags.length) 1 (-1) (f, 0, 0) (fun t => decide (nn t.1 p = 0)) o) : ShQ ags p f (wayO o).how (if o.isSome then 0 else 11) := by
  cases o with
  | some k => exact ⟨fun _ => ⟨sho_63 hok hf h, h.1⟩, fun e => absurd rfl e⟩
  | none =>
    refine ⟨fun e => absurd e (by decide), fun _ => ⟨rfl, rfl, fun hc => ?_⟩⟩
    obtain ⟨c, k, hw⟩ := hc
    obtain ⟨v, t, h1, h2, _⟩ := wy_run hw 0 0
    have : decide (nn t.1 p = 0) = false := h v t h1 (.inl (by decide))
    exact absurd h2 (of_decide_eq_false this)
theorem ShQ.le {ags : List Ag} {p f : Nat} {W : List Nat} {E : Nat} (h : ShQ ags p f W E) : W.length ≤ 63 := by
  by_cases e : E = 0
  · exact (h.yes e).1
  · rw [(h.no e).2.1]; exact Nat.zero_le _
end Go.Proofs.YtofkhehcnfiopaaDoor.N
namespace Go.Proofs.YtofkhehcnfiopaaDoor.N
open Go Go.RowKit Go.Proofs
set_option linter.unusedSectionVars false
variable [I : Sys]
/-! What the chapter's examples come to: all that is reached, by going through it. -/
section
variable {ags : List Ag} {used f p : Nat}
def nextS (ags : List Ag) (used : Nat) (S : List Nat) : List Nat := S.flatMap fun y => (canTo ags used y ags.length).map fun i => putN (ags.getD i default) y
def addS (S T : List Nat) : List Nat := T.foldl (fun S y => if S.contains y then S else S ++ [y]) S
def cloS (ags : List Ag) (used : Nat) : Nat → List Nat → List Nat
  | 0, S => S
  | k + 1, S => cloS ags used k (addS S (nextS ags used S))
def clo (ags : List Ag) (used f : Nat) : List Nat := cloS ags used 6 [f]
def closedB (ags : List Ag) (used : Nat) (S : List Nat) : Bool := (nextS ags used S).all fun y => S.contains y
theorem addS_mem : ∀ (T S : List Nat) {y : Nat}, y ∈ addS S T → y ∈ S ∨ y ∈ T
  | [], S, y, h => .inl h
  | x :: T, S, y, h => by
    have h := addS_mem T _ (show y ∈ addS (if S.contains x then S else S ++ [x]) T from h)
    rcases h with h | h
    · split at h
      · exact .inl h
      · rcases List.mem_append.1 h with h | h
        · exact .inl h
        · exact .inr (by rw [List.mem_singleton.1 h]; exact List.mem_cons_self ..)
    · exact .inr (List.mem_cons_of_mem _ h)
theorem cloS_rch : ∀ (k : Nat) (S : List Nat), (∀ y ∈ S, Rch ags used f y) → ∀ y ∈ cloS ags used k S, Rch ags used f y
  | 0, _, h => h
  | k + 1, S, h => cloS_rch k _ fun y hy => by
    rcases addS_mem _ _ hy with h1 | h1
    · exact h y h1
    · obtain ⟨x, hx, h2⟩ := List.mem_flatMap.1 h1
      obtain ⟨i, hi, rfl⟩ := List.mem_map.1 h2
      exact (h x hx).step hi
theorem rch_closed {S : List Nat} (hf : S.contains f = true) (hc : closedB ags used S = true) {y : Nat} (h : Rch ags used f y) : y ∈ S := by
  induction h with
  | base => simpa using hf
  | step _ hi ih =>
    have := List.all_eq_true.1 hc _ (List.mem_flatMap.2 ⟨_, ih, List.mem_map.2 ⟨_, hi, rfl⟩⟩)
    simpa using this
def okB (ags : List Ag) (used : Nat) : Bool := (List.range 64).all fun f => (clo ags used f).contains f && closedB ags used (clo ags used f)
theorem rch_iff (h : okB ags used = true) (hf : f < 64) {y : Nat} : Rch ags used f y ↔ y ∈ clo ags used f := by
  have h1 := List.all_eq_true.1 h f (List.mem_range.2 hf)
  rw [Bool.and_eq_true] at h1
  exact ⟨rch_closed h1.1 h1.2, cloS_rch 6 [f] (fun y hy => by rw [List.mem_singleton.1 hy]; exact .base) y⟩
def clrB (ags : List Ag) (used p f : Nat) : Bool := (clo ags used f).any fun y => decide (nn y p = 0)
theorem clr_iff (h : okB ags used = true) (hf : f < 64) : Clr ags used p f ↔ clrB ags used p f = true := by
  unfold clrB
  rw [clr_rch, List.any_eq_true]
  exact ⟨fun ⟨y, h1, h2⟩ => ⟨y, (rch_iff h hf).1 h1, by simpa using h2⟩, fun ⟨y, h1, h2⟩ => ⟨y, (rch_iff h hf).2 h1, by simpa using h2⟩⟩
open Classical in
theorem fltP_is {q : Nat → Prop} {b : Nat → Bool} {l : List Nat} (h : ∀ i ∈ l, q i ↔ b i = true) : fltP q l = l.filter b := by
  unfold fltP
  refine List.filter_congr fun i hi => ?_
  rw [Bool.eq_iff_iff, decide_eq_true_iff]
  exact h i hi
theorem hopeL_is (h : okB ags (usedAll ags.length) = true) : hopeL ags p = (List.range 64).filter fun f => !clrB ags (usedAll ags.length) p f :=
  fltP_is fun i hi => by rw [clr_iff h (List.mem_range.1 hi)]; simp
theorem needL_is (hf : f < 64) (h : ∀ i, i < ags.length → okB ags (butN ags.length i) = true) : needL ags p f ags.length = (List.range ags.length).filter fun i => !clrB ags (butN ags.length i) p f :=
  fltP_is fun i hi => by rw [clr_iff (h i (List.mem_range.1 hi)) hf]; simp
theorem spoilL_is {l : List Nat} (h : okB ags (usedAll ags.length) = true) (hl : ∀ i ∈ l, putN (ags.getD i default) f < 64) : spoilL ags p f l = l.filter fun i => !clrB ags (usedAll ags.length) p (putN (ags.getD i default) f) :=
  fltP_is fun i hi => by rw [clr_iff h (hl i hi)]; simp
theorem rchL_is (h : okB ags (usedAll ags.length) = true) (hf : f < 64) : rchL ags f = (List.range 64).filter fun y => (clo ags (usedAll ags.length) f).contains y :=
  fltP_is fun i hi => by rw [rch_iff h hf]; simp
theorem asAll_is {l : List Nat} (h0 : okB ags (usedAll ags.length) = true) (h : okB ags (maskL l) = true) (hl : ∀ i ∈ l, i < ags.length) :
    asAll ags p l ↔ ((List.range 64).all fun m => clrB ags (maskL l) p m == clrB ags (usedAll ags.length) p m) = true := by
  rw [List.all_eq_true]
  constructor
  · intro ha m hm
    have h1 := ha m (List.mem_range.1 hm)
    rw [only_clr hl, clr_iff h (List.mem_range.1 hm), clr_iff h0 (List.mem_range.1 hm)] at h1
    rw [beq_iff_eq, Bool.eq_iff_iff]
    exact h1
  · intro ha m hm
    have h1 := ha m (List.mem_range.2 hm)
    rw [beq_iff_eq, Bool.eq_iff_iff] at h1
    rw [only_clr hl, clr_iff h hm, clr_iff h0 hm]
    exact h1
end
/-- Words that are short enough have small codes. -/
def geo (n : Nat) : Nat → Nat
  | 0 => 1
  | k + 1 => n * geo n k + 1
theorem geo_mono {n : Nat} (hn : 1 ≤ n) : ∀ k, geo n k ≤ geo n (k + 1)
  | 0 => by show 1 ≤ n * 1 + 1; omega
  | k + 1 => by
    have h := geo_mono hn k
    show n * geo n k + 1 ≤ n * geo n (k + 1) + 1
    have := Nat.mul_le_mul_left n h
    omega
theorem code_geo {n : Nat} (hn : 1 ≤ n) : ∀ (k : Nat) (w : List Nat), w.length = k → Wd n w → code n w < geo n k
  | 0, w, h, _ => by
    obtain rfl : w = [] := List.length_eq_zero_iff.1 h
    exact Nat.one_pos
  | k + 1, w, h, hw => by
    rcases Classical.em (w = []) with rfl | hne
    · cases h
    · obtain ⟨v, i, rfl⟩ : ∃ v i, w = v ++ [i] := ⟨w.dropLast, w.getLast hne, (List.dropLast_concat_getLast hne).symm⟩
      have hv := Wd.snoc.1 hw
      have ih := code_geo hn k v (by simpa using h) hv.1
      rw [code_snoc]
      show code n v * n + i + 1 < n * geo n k + 1
      have h1 : (code n v + 1) * n ≤ geo n k * n := Nat.mul_le_mul_right n ih
      rw [Nat.add_mul, Nat.one_mul, Nat.mul_comm (geo n k)] at h1
      have := hv.2
      omega
theorem code_geo_le {n : Nat} (hn : 1 ≤ n) {k : Nat} {w : List Nat} (h : w.length ≤ k) (hw : Wd n w) : code n w < geo n k := by
  have h1 := code_geo hn w.length w rfl hw
  obtain ⟨d, rfl⟩ := Nat.exists_eq_add_of_le h
  clear h
  induction d with
  | zero => exact h1
  | succ d ih => exact Nat.lt_of_lt_of_le ih (geo_mono hn _)
def noneB (ags : List Ag) (used n k : Nat) (t0 : Tm) (goal : Tm → Bool) : Bool := (List.range (geo ags.length k)).all fun c => !(hitB ags used n (k : Int) t0 goal (decode ags.length c))
theorem found_none {ags : List Ag} {used n k : Nat} {t0 : Tm} {goal : Tm → Bool} {o : Option Wk} (ho : FoundO ags used n (k : Int) t0 goal o) (hn : 1 ≤ ags.length) (h : noneB ags used n k t0 goal = true) : o = none := by
  cases o with
  | none => rfl
  | some x =>
    exfalso
    obtain ⟨⟨hr, hf, _⟩, _⟩ := ho
    obtain ⟨t, hr, hg⟩ := hr
    have hw := run_wd _ stepT_none x.how t0 t hr
    have hl : x.how.length ≤ k := by
      rcases hf with hf | hf
      · omega
      · exact Int.ofNat_le.1 hf
    have h1 := List.all_eq_true.1 h (code ags.length x.how) (List.mem_range.2 (code_geo_le hn hl hw))
    rw [decode_code hn hw, hitB_iff.2 ⟨⟨t, hr, hg⟩, hf⟩] at h1
    cases h1
end Go.Proofs.YtofkhehcnfiopaaDoor.N
namespace Go.Proofs.YtofkhehcnfiopaaDoor.N
open Go Go.RowKit Go.Proofs
set_option linter.unusedSectionVars false
variable [I : Sys]
/-! The way that is chosen, whoever chooses it: at each melt the first agent with which it costs as little as it can. -/
inductive Cn (ags : List Ag) (used p : Nat) : Nat → List Nat → Prop
  | done {f : Nat} (h : Opt ags used p f 0 0) : Cn ags used p f []
  | step {f i c k : Nat} {W : List Nat} (hi : i ∈ canTo ags used f ags.length) (ho : Opt ags used p (putN (ags.getD i default) f) c k) (hf : Opt ags used p f (c + (ags.getD i default).cost) (k + 1))
      (hm : ∀ j ∈ canTo ags used f ags.length, j < i → ∀ c' k', Opt ags used p (putN (ags.getD j default) f) c' k' → ¬ (c' + (ags.getD j default).cost = c + (ags.getD i default).cost ∧ k' = k)) (hW : Cn ags used p (putN (ags.getD i default) f) W) : Cn ags used p f (i :: W)
section
variable {ags : List Ag} {used p : Nat}
theorem Cn.uniq {f : Nat} {W W' : List Nat} (h : Cn ags used p f W) (h' : Cn ags used p f W') : W = W' := by
  induction h generalizing W' with
  | done h =>
    cases h' with
    | done _ => rfl
    | step _ _ hf _ _ => have := (h.uniq hf).2; omega
  | @step f i c k W hi ho hf hm hW ih =>
    cases h' with
    | done h => have := (h.uniq hf).2; omega
    | @step _ i2 c2 k2 W2 hi2 ho2 hf2 hm2 hW2 =>
      obtain ⟨e1, e2⟩ := hf.uniq hf2
      rcases Nat.lt_trichotomy i i2 with h | h | h
      · exact absurd ⟨e1, by omega⟩ (hm2 i hi h c k ho)
      · subst h
        rw [ih hW2]
      · exact absurd ⟨e1.symm, by omega⟩ (hm i2 hi2 h c2 k2 ho2)
/-- What Cheapest says, the way among it. -/
structure ChC (ags : List Ag) (used p f : Nat) (W : List Nat) (c E : Nat) : Prop where
  yes : E = 0 → Cn ags used p f W ∧ ∃ k, Opt ags used p f c k
  no : E ≠ 0 → E = 11 ∧ c = 0 ∧ W = [] ∧ ¬ Clr ags used p f
theorem ChC.uniq {f c c' E E' : Nat} {W W' : List Nat} (h : ChC ags used p f W c E) (h' : ChC ags used p f W' c' E') : W = W' ∧ c = c' ∧ E = E' := by
  by_cases e : E = 0
  · obtain ⟨h1, k, h2⟩ := h.yes e
    by_cases e' : E' = 0
    · obtain ⟨h3, k', h4⟩ := h'.yes e'
      exact ⟨h1.uniq h3, (h2.uniq h4).1, by omega⟩
    · exact absurd ⟨c, k, h2.1⟩ (h'.no e').2.2.2
  · obtain ⟨h1, h2, h3, h4⟩ := h.no e
    by_cases e' : E' = 0
    · obtain ⟨_, k', h4'⟩ := h'.yes e'
      exact absurd ⟨c', k', h4'.1⟩ h4
    · obtain ⟨h5, h6, h7, _⟩ := h'.no e'
      exact ⟨by rw [h3, h7], by omega, by omega⟩
end
end Go.Proofs.YtofkhehcnfiopaaDoor.N
namespace Go.Proofs.YtofkhehcnfiopaaDoor.N
open Go Go.RowKit Go.Proofs
set_option linter.unusedSectionVars false
variable [I : Sys] [R : Rea]
/-! Faults under other numbers. -/
section
end
/-! Two searches of which the one finds what the other does. -/
theorem Cn.length {ags : List Ag} {used p f : Nat} {W : List Nat} (h : Cn ags used p f W) : ∃ c, Opt ags used p f c W.length := by
  induction h with
  | done h => exact ⟨0, h⟩
  | step _ ho hf _ _ ih =>
    obtain ⟨c', h'⟩ := ih
    obtain ⟨_, e2⟩ := ho.uniq h'
    exact ⟨_, by rw [List.length_cons, ← e2]; exact hf⟩
theorem ChC.len {ags : List Ag} {used p f c E : Nat} {W : List Nat} (hok : Oks ags) (hf : f < 64) (h : ChC ags used p f W c E) : W.length ≤ 63 := by
  by_cases e : E = 0
  · obtain ⟨c', h'⟩ := (h.yes e).1.length
    exact h'.short hok hf
  · rw [(h.no e).2.2.1]
    exact Nat.zero_le _
end Go.Proofs.YtofkhehcnfiopaaDoor.N
namespace Go.Proofs.YtofkhehcnfiopaaDoor.N
open Go Go.RowKit Go.Proofs
set_option linter.unusedSectionVars false
variable [I : Sys] [R : Rea]
/-! The reference's prices. -/
def lowB (a b : Nat × Nat) : Bool := decide (a.1 < b.1) || (decide (a.1 = b.1) && decide (a.2 < b.2))
theorem lowB_yes {a b : Nat × Nat} : lowB a b = true ↔ a.1 < b.1 ∨ a.1 = b.1 ∧ a.2 < b.2 := by simp [lowB]
theorem lowB_no {a b : Nat × Nat} (h : lowB a b = false) : lexle b.1 b.2 a.1 a.2 := by
  have : ¬ (a.1 < b.1 ∨ a.1 = b.1 ∧ a.2 < b.2) := fun hx => by rw [lowB_yes.2 hx] at h; cases h
  unfold lexle
  omega
section
variable {ags : List Ag} {p f : Nat}
theorem Wy.cost_le (hok : Oks ags) {used c k : Nat} (h : Wy ags used p f c k) : c ≤ 9 * k ∧ k ≤ c := by
  induction h with
  | done _ => exact ⟨Nat.le_refl _, Nat.le_refl _⟩
  | @step f i c k hi _ ih =>
    have := (agd_ok hok (can_mem.1 hi).1).cost
    omega
structure PrI (ags : List Ag) (p r m i : Nat) (ps : List (Nat × Nat)) : Prop where
  len : ps.length = 64
  le : ∀ f, f < 64 → (ps.getD f (0, 0)).1 < farN ∨ ps.getD f (0, 0) = (farN, 0)
  snd : ∀ f, f < 64 → (ps.getD f (0, 0)).1 < farN → Wy ags (usedAll ags.length) p f (ps.getD f (0, 0)).1 (ps.getD f (0, 0)).2
  cmp : ∀ f, f < 64 → ∀ c k, Wy ags (usedAll ags.length) p f c k → c < farN → (k ≤ r ∨ (k ≤ r + 1 ∧ f < m)) → lexle (ps.getD f (0, 0)).1 (ps.getD f (0, 0)).2 c k
  cur : ∀ j, j < i → j ∈ canTo ags (usedAll ags.length) m ags.length → ∀ c k, Wy ags (usedAll ags.length) p (putN (ags.getD j default) m) c k → c + (ags.getD j default).cost < farN → k ≤ r → lexle (ps.getD m (0, 0)).1 (ps.getD m (0, 0)).2 (c + (ags.getD j default).cost) (k + 1)
def initQ (p k : Nat) : List (Nat × Nat) := (List.range 64).map fun f => if f < k ∧ nn f p ≠ 0 then (farN, 0) else (0, 0)
theorem initQ_len (p k : Nat) : (initQ p k).length = 64 := by simp [initQ]
theorem getQ_set {L : List (Nat × Nat)} {f g : Nat} {x : Nat × Nat} (hf : f < L.length) : (L.set f x).getD g (0, 0) = if f = g then x else L.getD g (0, 0) := by
  rw [List.getD_eq_getElem?_getD, List.getElem?_set, List.getD_eq_getElem?_getD]
  by_cases e : f = g
  · subst e
    rw [if_pos rfl, if_pos rfl, if_pos hf]; rfl
  · rw [if_neg e, if_neg e]
theorem initQ_getD {p f : Nat} (hf : f < 64) : (initQ p 64).getD f (0, 0) = if nn f p = 0 then (0, 0) else (farN, 0) := by
  by_cases h : nn f p = 0 <;> simp [initQ, List.getD_eq_getElem?_getD, hf, h]
theorem PrI.start : PrI ags p 0 0 0 (initQ p 64) where
  len := initQ_len p 64
  le f hf := by
    rw [initQ_getD hf]
    split
    · exact .inl (by decide)
    · exact .inr rfl
  snd f hf h := by
    rw [initQ_getD hf] at h ⊢
    by_cases h0 : nn f p = 0
    · rw [if_pos h0]; exact .done h0
    · rw [if_neg h0] at h; exact absurd h (Nat.lt_irrefl _)
  cmp f hf c k h _ hk := by
    have hk0 : k = 0 := by omega
    subst hk0
    rw [initQ_getD hf]
    cases h with
    | done h0 => rw [if_pos h0]; exact lexle.refl _ _
  cur j hj := absurd hj (Nat.not_lt_zero _)
theorem PrI.skip {r m i : Nat} {ps : List (Nat × Nat)} (h : PrI ags p r m i ps) (hi : i ∈ canTo ags (usedAll ags.length) m ags.length → ∀ c k, Wy ags (usedAll ags.length) p (putN (ags.getD i default) m) c k → c + (ags.getD i default).cost < farN → k ≤ r → lexle (ps.getD m (0, 0)).1 (ps.getD m (0, 0)).2 (c + (ags.getD i default).cost) (k + 1)) : PrI ags p r m (i + 1) ps :=
  { h with
    cur := fun j hj hc => by
      rcases Nat.lt_succ_iff_lt_or_eq.1 hj with h1 | rfl
      · exact h.cur j h1 hc
      · exact hi hc }
theorem PrI.far {r m i : Nat} {ps : List (Nat × Nat)} (h : PrI ags p r m i ps) (hg : putN (ags.getD i default) m < 64) (hf : farN ≤ (ps.getD (putN (ags.getD i default) m) (0, 0)).1) : PrI ags p r m (i + 1) ps :=
  h.skip fun hc c k hw hl hk => by
    have := h.cmp _ hg c k hw (by omega) (.inl hk)
    unfold lexle at this
    omega
theorem PrI.keep {r m i : Nat} {ps : List (Nat × Nat)} (h : PrI ags p r m i ps) (hg : putN (ags.getD i default) m < 64)
    (hb : lowB ((ps.getD (putN (ags.getD i default) m) (0, 0)).1 + (ags.getD i default).cost, (ps.getD (putN (ags.getD i default) m) (0, 0)).2 + 1) (ps.getD m (0, 0)) = false) : PrI ags p r m (i + 1) ps :=
  h.skip fun hc c k hw hl hk => (lowB_no hb).trans ((h.cmp _ hg c k hw (by omega) (.inl hk)).add _)
theorem PrI.put {r m i : Nat} {ps : List (Nat × Nat)} (h : PrI ags p r m i ps) (hm : m < 64) (hi : i ∈ canTo ags (usedAll ags.length) m ags.length) (hg : putN (ags.getD i default) m < 64)
    (hn : (ps.getD (putN (ags.getD i default) m) (0, 0)).1 < farN)
    (hb : lowB ((ps.getD (putN (ags.getD i default) m) (0, 0)).1 + (ags.getD i default).cost, (ps.getD (putN (ags.getD i default) m) (0, 0)).2 + 1) (ps.getD m (0, 0)) = true) :
    PrI ags p r m (i + 1) (ps.set m ((ps.getD (putN (ags.getD i default) m) (0, 0)).1 + (ags.getD i default).cost, (ps.getD (putN (ags.getD i default) m) (0, 0)).2 + 1)) := by
  generalize hq : ((ps.getD (putN (ags.getD i default) m) (0, 0)).1 + (ags.getD i default).cost, (ps.getD (putN (ags.getD i default) m) (0, 0)).2 + 1) = q at hb ⊢
  have hb' := lowB_yes.1 hb
  have hml : m < ps.length := by rw [h.len]; exact hm
  have hq1 : q.1 = (ps.getD (putN (ags.getD i default) m) (0, 0)).1 + (ags.getD i default).cost := by rw [← hq]
  have hq2 : q.2 = (ps.getD (putN (ags.getD i default) m) (0, 0)).2 + 1 := by rw [← hq]
  have hqf : q.1 < farN := by
    rcases h.le m hm with h1 | h1
    · omega
    · rw [h1] at hb'
      dsimp only at hb'
      omega
  have dec : ∀ f, lexle ((ps.set m q).getD f (0, 0)).1 ((ps.set m q).getD f (0, 0)).2 (ps.getD f (0, 0)).1 (ps.getD f (0, 0)).2 := fun f => by
    rw [getQ_set hml]
    by_cases e : m = f
    · subst e; rw [if_pos rfl]; unfold lexle; omega
    · rw [if_neg e]; exact lexle.refl _ _
  refine ⟨by rw [List.length_set]; exact h.len, fun f hf => ?_, fun f hf hlt => ?_, fun f hf c k hw hl hk => (dec f).trans (h.cmp f hf c k hw hl hk), fun j hj hc c k hw hl hk => ?_⟩
  · rw [getQ_set hml]
    by_cases e : m = f
    · rw [if_pos e]; exact .inl hqf
    · rw [if_neg e]; exact h.le f hf
  · rw [getQ_set hml] at hlt ⊢
    by_cases e : m = f
    · subst e
      rw [if_pos rfl, hq1, hq2]
      exact .step hi (h.snd _ hg hn)
    · rw [if_neg e] at hlt ⊢
      exact h.snd f hf hlt
  · rcases Nat.lt_succ_iff_lt_or_eq.1 hj with h1 | rfl
    · exact (dec m).trans (h.cur j h1 hc c k hw hl hk)
    · rw [getQ_set hml, if_pos rfl, hq1, hq2]
      exact (h.cmp _ hg c k hw (by omega) (.inl hk)).add _
theorem PrI.next {r m : Nat} {ps : List (Nat × Nat)} (h : PrI ags p r m ags.length ps) : PrI ags p r (m + 1) 0 ps :=
  { h with
    cmp := fun f hf c k hw hl hk => by
      by_cases h0 : k ≤ r ∨ (k ≤ r + 1 ∧ f < m)
      · exact h.cmp f hf c k hw hl h0
      · have hfm : f = m := by omega
        subst hfm
        cases hw with
        | done h1 => exact h.cmp f hf 0 0 (.done h1) (by decide) (.inl (Nat.zero_le _))
        | step hi hw' => exact h.cur _ (can_mem.1 hi).1 hi _ _ hw' hl (by omega)
    cur := fun j hj => absurd hj (Nat.not_lt_zero _) }
theorem PrI.round {r : Nat} {ps : List (Nat × Nat)} (h : PrI ags p r 64 0 ps) : PrI ags p (r + 1) 0 0 ps :=
  { h with
    cmp := fun f hf c k hw hl hk => h.cmp f hf c k hw hl (by omega)
    cur := fun j hj => absurd hj (Nat.not_lt_zero _) }
structure PrS (ags : List Ag) (p : Nat) (ps : List (Nat × Nat)) : Prop where
  len : ps.length = 64
  far : ∀ f, f < 64 → (farN ≤ (ps.getD f (0, 0)).1 ↔ ¬ Clr ags (usedAll ags.length) p f)
  opt : ∀ f, f < 64 → (ps.getD f (0, 0)).1 < farN → Opt ags (usedAll ags.length) p f (ps.getD f (0, 0)).1 (ps.getD f (0, 0)).2
  top : ∀ f, f < 64 → (ps.getD f (0, 0)).1 ≤ farN ∧ (ps.getD f (0, 0)).2 ≤ 63
theorem PrI.top (hok : Oks ags) {r m i : Nat} {ps : List (Nat × Nat)} (h : PrI ags p r m i ps) {f : Nat} (hf : f < 64) : (ps.getD f (0, 0)).1 ≤ farN ∧ (ps.getD f (0, 0)).2 ≤ farN := by
  rcases h.le f hf with h1 | h1
  · have := (Wy.cost_le hok (h.snd f hf h1)).2
    omega
  · rw [h1]; exact ⟨Nat.le_refl _, Nat.zero_le _⟩
/-- The choice that is made at a melt. -/
def Pick (ags : List Ag) (ps : List (Nat × Nat)) (m j : Nat) : Prop :=
  j ∈ canTo ags (usedAll ags.length) m ags.length ∧ (ps.getD (putN (ags.getD j default) m) (0, 0)).1 + (ags.getD j default).cost = (ps.getD m (0, 0)).1 ∧ (ps.getD (putN (ags.getD j default) m) (0, 0)).2 + 1 = (ps.getD m (0, 0)).2
theorem PrS.near {ps : List (Nat × Nat)} (h : PrS ags p ps) {g c k : Nat} (hg : g < 64) (ho : Opt ags (usedAll ags.length) p g c k) : (ps.getD g (0, 0)).1 < farN ∧ (ps.getD g (0, 0)).1 = c ∧ (ps.getD g (0, 0)).2 = k := by
  have hlt : (ps.getD g (0, 0)).1 < farN := by
    rcases Nat.lt_or_ge (ps.getD g (0, 0)).1 farN with h1 | h1
    · exact h1
    · exact absurd ⟨_, _, ho.1⟩ ((h.far g hg).1 h1)
  exact ⟨hlt, (h.opt g hg hlt).uniq ho⟩
theorem PrS.cn (hok : Oks ags) {ps : List (Nat × Nat)} (h : PrS ags p ps) {m i : Nat} {W : List Nat} (hm : m < 64) (hn : (ps.getD m (0, 0)).1 < farN) (hi : Pick ags ps m i) (hj : ∀ j, j < i → ¬ Pick ags ps m j)
    (hW : Cn ags (usedAll ags.length) p (putN (ags.getD i default) m) W) : Cn ags (usedAll ags.length) p m (i :: W) := by
  obtain ⟨h1, h2, h3⟩ := hi
  have hg : putN (ags.getD i default) m < 64 := putN_lt (agd_ok hok (can_mem.1 h1).1) hm
  have ho := h.opt _ hg (by omega)
  refine .step h1 ho (by rw [h2, h3]; exact h.opt m hm hn) (fun j hjc hji c' k' hoj => ?_) hW
  rintro ⟨e1, e2⟩
  have hgj : putN (ags.getD j default) m < 64 := putN_lt (agd_ok hok (can_mem.1 hjc).1) hm
  obtain ⟨_, e3, e4⟩ := h.near hgj hoj
  exact hj j hji ⟨hjc, by omega, by omega⟩
theorem PrS.done {ps : List (Nat × Nat)} (h : PrS ags p ps) {m : Nat} (hm : m < 64) (hn : (ps.getD m (0, 0)).1 < farN) (h0 : (ps.getD m (0, 0)).2 = 0) : Cn ags (usedAll ags.length) p m [] := by
  have ho := h.opt m hm hn
  rw [h0] at ho
  have hw := ho.1
  generalize (ps.getD m (0, 0)).1 = c at ho hw
  cases hw with
  | done _ => exact .done ho
theorem PrS.next (hok : Oks ags) {ps : List (Nat × Nat)} (h : PrS ags p ps) {m : Nat} (hm : m < 64) (hn : (ps.getD m (0, 0)).1 < farN) (h0 : 0 < (ps.getD m (0, 0)).2) : ∃ i, i < ags.length ∧ Pick ags ps m i := by
  have ho := h.opt m hm hn
  obtain ⟨k, hk⟩ : ∃ k, (ps.getD m (0, 0)).2 = k + 1 := ⟨(ps.getD m (0, 0)).2 - 1, by omega⟩
  rw [hk] at ho
  obtain ⟨i, c, hi, hc, hg, hog⟩ := ho.next hok hm
  obtain ⟨_, e3, e4⟩ := h.near hg hog
  exact ⟨i, (can_mem.1 hi).1, hi, by omega, by omega⟩
theorem Pick.dec {ps : List (Nat × Nat)} {m j : Nat} (hj : j < ags.length) : Pick ags ps m j ↔ mayN (ags.getD j default) m = true ∧ (ps.getD (putN (ags.getD j default) m) (0, 0)).1 + (ags.getD j default).cost = (ps.getD m (0, 0)).1 ∧ (ps.getD (putN (ags.getD j default) m) (0, 0)).2 + 1 = (ps.getD m (0, 0)).2 := by
  unfold Pick
  rw [can_all]
  exact ⟨fun h => ⟨h.1.2, h.2⟩, fun h => ⟨⟨hj, h.1⟩, h.2⟩⟩
end
/-! Slices that are made. -/
section
variable {C : Ctx} {fr : List (Nat × Value)} {hp : List Res} {a : Act} {w : World} {ops : Array Oper} {Q : Exit → Act → World → Prop} {rest : List Oper}
  {d : Nat} {ty : TypeId} {pos : String} {after : Array Edge}
end
end Go.Proofs.YtofkhehcnfiopaaDoor.N
namespace Go.Proofs.YtofkhehcnfiopaaDoor.N
open Go Go.RowKit Go.Proofs
set_option linter.unusedSectionVars false
variable [I : Sys] [R : Rea]
/-! What is reached, the shortest and the cheapest way, of whatever agents, a melt and faults. -/
def Says3 (w : World) (L : List Nat) (n E : Nat) (e : Ending) (w' : World) : Prop := ∃ (A' : Option Addr) (c' : Nat), e = .returned (.tuple #[.slice A' L.length c', .int .i64 (n : Int), .int .i64 (E : Int)]) ∧ Grew w w' [.row 3 1 A' L.length c' (ints L)]
theorem Says3.nil {w w' : World} {E : Nat} {e : Ending} (h : e = .returned (.tuple #[.slice none 0 0, .int .i64 0, .int .i64 (E : Int)]) ∧ Grew w w' []) : Says3 w [] 0 E e w' := ⟨none, 0, h.1, grew_nil h.2⟩
end Go.Proofs.YtofkhehcnfiopaaDoor.N
namespace Go.Proofs.YtofkhehcnfiopaaDoor.N
open Go Go.RowKit Go.Proofs
set_option linter.unusedSectionVars false
variable [I : Sys]
section
variable {C : Ctx} {fr : List (Nat × Value)} {hp hp' : List Res} {a : Act} {w : World} {ops : Array Oper} {Q : Exit → Act → World → Prop} {rest : List Oper}
  {d : Nat} {ty : TypeId} {pos : String} {after : Array Edge}
/-- A byte of a table of small numbers. -/
theorem lst_index_tab {x y : Operand} {t : TypeId} {s : ByteArray} {i N B : Nat} (hd : Nat.blt d C.N = true) (hx : ev fr x = some (.string s)) (hy : ev fr y = some (.int .u8 (i : Int))) (ht : C.P.underlying t = some .string)
    (hall : (List.range N).all (fun i => (s[i]?).any fun b => Nat.ble b.toNat B) = true) (hi : i < N) (k : ∀ n : Nat, n ≤ B → Lst C ops Q rest ((d, .int .u8 (n : Int)) :: fr) hp) :
    Lst C ops Q (⟨some d, .index t x y, ty, pos, after, none⟩ :: rest) fr hp := by
  have h1 := List.all_eq_true.1 hall i (List.mem_range.2 hi)
  cases hb : s[i]? with
  | none => rw [hb] at h1; cases h1
  | some b =>
    rw [hb] at h1
    refine lst_value _ hd (fun _ _ _ => tame_indexVal ..) (fun a w ha => ⟨w, ?_, ha⟩) (k b.toNat (by simpa [Nat.ble_eq] using h1))
    simp [execOp, ha.eval hx, ha.eval hy, Instr.index, asIntOf, run_underlying ht, hb]
theorem lst_make_cap {t e : TypeId} {x y : Operand} {n : Nat} (hd : Nat.blt d C.N = true) (hx : ev fr x = some (.int .i64 0)) (hy : ev fr y = some (.int .i64 (n : Int))) (ht : C.P.underlying t = some (.slice e)) (hz : TI C.P e (.int .i64 0) 1 8) (hn : n ≤ 1000000)
    (k : ∀ b, Lst C ops Q rest ((d, .slice (some ⟨b, 0, none⟩) 0 n) :: fr) (.row e 1 (some ⟨b, 0, none⟩) 0 n [] :: hp)) : Lst C ops Q (⟨some d, .makeSlice t x y, ty, pos, after, none⟩ :: rest) fr hp := by
  refine lst_of rfl fun a w ha => ?_
  obtain ⟨i, hi, hz0, hs, hb⟩ := hz
  refine ⟨tame_makeSlice .., ?_⟩
  have hm : (Instr.makeSlice t (.int .i64 0) (.int .i64 (n : Int))).run C.P w = .ok (.slice (some ⟨w.heap.size, 0, none⟩) 0 n) (w.alloc (.cells (ints (List.replicate n 0)).toArray e)) := by
    have h := run_makeSlice (P := C.P) w t e i (.int .i64 0) ht hi hz0 .i64 .i64 0 (n : Int) (by omega) (by omega) (by rw [hs]; simp; omega) (by rw [hb]; omega) (by omega)
    simp only [Int.toNat_natCast, hs, Nat.mul_one] at h
    rw [h, madeCells_ints]
    rfl
  have hr : (execOp a.eval ⟨some d, .makeSlice t x y, ty, pos, after, none⟩).run C.P w = .ok (.value (.slice (some ⟨w.heap.size, 0, none⟩) 0 n)) (w.alloc (.cells (ints (List.replicate n 0)).toArray e)) := by
    simp only [execOp, ha.eval hx, ha.eval hy, Sem.run_bind, hm, Result.andThen_ok, Sem.run_pure]
  rw [hr]
  refine k w.heap.size _ _ (At.put ?_ (lt_of_blt hd) _)
  have h1 := ha.alloc (.cells (ints (List.replicate n 0)).toArray e)
  have hlen : (ints (List.replicate n 0)).length = n := by rw [ints_zeros, List.length_replicate]
  refine ⟨h1.size, h1.defs, h1.slots, h1.below, h1.base, fun r hr => ?_, ?_⟩
  · rcases List.mem_cons.1 hr with rfl | hr
    · have h2 := h1.own _ (List.mem_cons_self ..)
      exact ⟨by simp, .inr ⟨_, n, _, rfl, h2.1, h2.2, Nat.zero_le _, by unfold maxLen; omega, by rw [List.size_toArray, hlen, Nat.mul_one], by rw [Nat.zero_mul]; rfl⟩⟩
    · exact h1.own r (List.mem_cons_of_mem _ hr)
  · exact h1.apart
end
end Go.Proofs.YtofkhehcnfiopaaDoor.N
namespace Go.Proofs.YtofkhehcnfiopaaDoor.N
open Go Go.RowKit Go.Proofs
set_option linter.unusedSectionVars false
variable [I : Sys]
theorem F.ent127 : Enters Tryd.prog 127 := enters_of Tryd.func127 rfl (by kernel_rfl)
theorem ones_c (s : Nat) (hs : s < 16) (w : World) : Calls Tryd.prog 127 #[.int .u8 (s : Int)] w fun e w' => ∃ n : Nat, n ≤ 4 ∧ e = .returned (.int .i64 (n : Int)) ∧ Grew w w' [] := by
  refine enter (N := 6) [(0, .int .u8 (s : Int))] Tryd.func127 rfl Tryd.ntmps127 rfl rfl ?_
  refine cod_seq ?_
  refine cod_region ?_
  refine lst_assign rfl rfl ?_
  refine lst_nil ?_
  refine ex_then ?_
  refine cod_seq ?_
  refine cod_region ?_
  refine lst_move rfl rfl ?_
  refine lst_index_tab (N := 16) (B := 4) rfl rfl rfl Tryd.underlying9 (by kernel_rfl) hs ?_
  intro n4 hn4
  refine lst_convert rfl rfl Tryd.underlying5 Tryd.underlying3 (wrap_i64' _ (by omega) (by omega)) ?_
  refine lst_assign rfl rfl ?_
  refine lst_nil ?_
  refine ex_then ?_
  refine cod_ret ?_
  exact ex_ret rfl (fun a w ha => res_one rfl rfl ha) (fun a w ha => ⟨n4, hn4, rfl, ha.grown (List.nil_sublist _)⟩)

theorem count_c (s : Nat) (hs : s < 16) (w : World) : Calls Tryd.prog 109 #[.int .u8 (s : Int)] w fun e w' => ∃ n : Nat, n ≤ 4 ∧ e = .returned (.int .i64 (n : Int)) ∧ Grew w w' [] := by
  refine enter (N := 5) [(0, .int .u8 (s : Int))] Tryd.func109 rfl Tryd.ntmps109 rfl rfl ?_
  refine cod_seq ?_
  refine cod_region ?_
  refine lst_assign rfl rfl ?_
  refine lst_nil ?_
  refine ex_then ?_
  refine cod_seq ?_
  refine cod_region ?_
  refine lst_move rfl rfl ?_
  refine lst_fn (X := Nat) (vs := [_]) (p := fun n => n ≤ 4) (val := fun n => .int .i64 (n : Int)) (rs := fun _ => []) rfl rfl F.ent127 (fun a w ha => ones_c s hs w) ?_
  intro n hn
  dsimp only [List.nil_append]
  refine lst_assign rfl rfl ?_
  refine lst_nil ?_
  refine ex_then ?_
  refine cod_ret ?_
  exact ex_ret rfl (fun a w ha => res_one rfl rfl ha) (fun a w ha => ⟨n, hn, rfl, ha.grown (List.nil_sublist _)⟩)

theorem sets_c (n : Nat) (w : World) : Calls Tryd.prog 108 #[.int .i64 (n : Int)] w fun e w' => ∃ b : Nat, e = .returned (.func (.func 125) ([] : List Value).toArray [.pointer (some ⟨b, 0, none⟩)].toArray) ∧ Grew w w' [.blk b (.cells [.int .i64 (n : Int)].toArray 3 (0, 0))] := by
  refine enter (N := 4) [(0, .int .i64 (n : Int))] Tryd.func108 rfl Tryd.ntmps108 rfl rfl ?_
  refine cod_seq ?_
  refine cod_region ?_
  refine lst_box rfl rfl ?_
  intro b1
  refine lst_assign rfl rfl ?_
  refine lst_nil ?_
  refine ex_then ?_
  refine cod_seq ?_
  refine cod_region ?_
  refine lst_makeFunc (fs := []) (cs := [_]) rfl rfl rfl ?_
  refine lst_assign rfl rfl ?_
  refine lst_nil ?_
  refine ex_then ?_
  refine cod_ret ?_
  exact ex_ret rfl (fun a w ha => res_one rfl rfl ha) (fun a w ha => ⟨b1, rfl, ha.grown (List.Sublist.refl _)⟩)

end Go.Proofs.YtofkhehcnfiopaaDoor.N
namespace Go.Proofs.YtofkhehcnfiopaaDoor.N
open Go Go.RowKit Go.Conc
set_option linter.unusedSectionVars false
set_option autoImplicit false
/-! A range over a function, on views. -/
/-- How a round's body may end. -/
def roundPost (P : Program) (l : Nat) (R : Ending → World → Prop) : Exit → Act → World → Prop
  | .normal, _, v => ∀ v₁, Rl v v₁ → ∃ x v', (Instr.endRound l none).run P v₁ = .ok x v' ∧ R (.returned x) v'
  | .ret, _, v => ∀ v₁, Rl v v₁ → ∃ x v', (Instr.endRound l (some .ret)).run P v₁ = .ok x v' ∧ R (.returned x) v'
  | .exit id, _, v => ∀ v₁, Rl v v₁ → ∃ x v', (Instr.endRound l (some (.exit id))).run P v₁ = .ok x v' ∧ R (.returned x) v'
  | _, _, _ => False
section
variable {P : Program} [I : Sys]
theorem tame_beginRound (l : Nat) : Tame P (Instr.beginRound l) := Tame.bind (tame_getLoop l) fun r => Tame.bind ⟨trivial, trivial⟩ fun _ => by
  split <;> first | trivial | exact tame_runtimePanic _
theorem tame_endLoop (l : Nat) : Tame P (Instr.endLoop l) := Tame.bind (tame_getLoop l) fun r => by
  show Tame P (if r.state == .busy then _ else _)
  split
  · exact Tame.bind (tame_runtimePanic _) fun _ => Tame.bind ⟨trivial, trivial⟩ fun _ => trivial
  · exact Tame.bind ⟨trivial, trivial⟩ fun _ => trivial
theorem Stp.begin {main : Bool} {b : Frame} {a : Act} {k : List Item} {cs : List Frame} {l : Nat} {v v' : World} (hb : b.roundOf = some l) (hk : b.kind ≠ .early) (hr : (Instr.beginRound l).run P v = .ok () v') :
    ∃ es, Stp P main (G (b.atR a (.beginRound :: k)) cs) v (G (b.atR a k) cs) v' es := by
  have hk' : (b.kind == CallKind.early) = false := by simpa using hk
  have ht : Tame P (do Instr.beginRound l; pure .skip : Sem Next) := Tame.bind (tame_beginRound l) fun _ => trivial
  have hr' : (do Instr.beginRound l; pure .skip : Sem Next).run P v = .ok .skip v' := by simp [Sem.run_bind, hr]
  refine ⟨seen P b.fn ((do Instr.beginRound l; pure .skip : Sem Next).events P v #[]), ⟨fun F S w hw => ?_, fun _ _ w hw => ?_⟩⟩
  · obtain ⟨w', h1, h2, h3, h4, h5⟩ := ht.ok hr' hw
    refine ⟨w', ?_, h3, h4, mem_seen' h5⟩
    rw [← h2]
    obtain ⟨w2, k1, _⟩ := (tame_beginRound l).ok hr hw
    obtain rfl : w2 = w' := by
      have e : (do Instr.beginRound l; pure .skip : Sem Next).run P w = .ok .skip w2 := by simp [Sem.run_bind, k1]
      rw [h1] at e
      cases e; rfl
    simp [G, stepG, stepG.exec, Frame.atR, hb, stepG.apply, k1, hk', GStep.after, Frame.finish]
  · obtain ⟨w', h1, _, _, h4, _⟩ := ht.ok hr' hw.self
    rw [hr'] at h1
    cases h1
    exact h4.output
theorem rounds_of_wp {l : Nat} {f : FuncId} {tmps : Array Value} {assign body : Code} {v : World} {R : Ending → World → Prop} (hfa : fits assign = true) (hfb : fits body = true)
    (h : wp P assign (Exit.then (fun a v => ∀ v₁, Rl v v₁ → ∃ v', (Instr.beginRound l).run P v₁ = .ok () v' ∧ wp P body (roundPost P l R) a v') (fun _ _ _ => False)) ⟨tmps, []⟩ v) : Rounds P l f tmps assign body v R := by
  intro cs
  let b : Frame := { (default : Frame) with fn := f, kind := .normal, roundOf := some l }
  have hb : b.kind ≠ .early := by simp [b]
  have he : Frame.round l f tmps assign body .normal = b.atR ⟨tmps, []⟩ [.code assign, .beginRound, .code body] := by simp [Frame.round, Frame.atR, b]
  rw [he]
  refine (h b [.beginRound, .code body] cs ⟨hb, .inr hfa⟩).bind ?_
  rintro g w' ⟨e, a', v0, hq, hr, harr⟩
  cases e with
  | normal =>
    obtain rfl := harr
    refine Gs.step' rfl fun v₁ h1 => ?_
    obtain ⟨v', h2, h3⟩ := hq v₁ (hr.trans h1)
    obtain ⟨es, h4⟩ := Stp.begin (main := I.main) (b := b) (a := a') (k := [.code body]) (cs := cs) rfl hb h2
    refine ⟨_, _, _, h4, (h3 b [] cs ⟨hb, .inr hfb⟩).bind ?_⟩
    rintro g w'' ⟨e, a2, v2, hq, hr, harr⟩
    cases e with
    | normal => obtain rfl := harr; exact .stop fun v3 h3 => ⟨_, rfl, b, a2, [], none, rfl, rfl, rfl, .inl ⟨rfl, rfl⟩, fun v4 h4 => hq v4 ((hr.trans h3).trans h4)⟩
    | ret => obtain ⟨todo, rfl⟩ := harr; exact .stop fun v3 h3 => ⟨_, rfl, b, a2, _, some .ret, rfl, rfl, rfl, .inr (.inl ⟨todo, rfl, rfl⟩), fun v4 h4 => hq v4 ((hr.trans h3).trans h4)⟩
    | exit id => obtain ⟨k₁, hk, rfl⟩ := harr; exact .stop fun v3 h3 => ⟨_, rfl, b, a2, _, some (.exit id), rfl, rfl, rfl, .inr (.inr ⟨id, k₁, rfl, by rw [hk]; rfl, rfl⟩), fun v4 h4 => hq v4 ((hr.trans h3).trans h4)⟩
    | _ => exact hq.elim
  | _ => exact hq.elim
/-- The one call of a range over a function. -/
def rangeSem (a : Act) (g : Operand) (l : Nat) : Sem Next := do
  let d ← resolve a.eval { callee := .value g, args := #[.const (.func (.yield l) #[] #[])], argTypes := #[] } 0
  invoke d.target d.args
theorem tame_enterLoop (fn : FuncId) (tmps : Array Value) (ps : Array Tmp) (assign body : Code) : Tame P (Instr.enterLoop fn tmps ps assign body none) := by
  exact And.intro trivial fun _ => And.intro trivial fun _ => trivial
theorem Stp.ranges {main : Bool} {b : Frame} {a : Act} {k : List Item} {cs : List Frame} {v : World} {g : Operand} {ps : Array Tmp} {assign body : Code} {f : FuncId} {args : Array Value} (hb : b.roundOf = none) (hk : b.kind ≠ .early)
    (ht : Tame P (rangeSem a g (v.heap.size + 1))) (hr : ∀ w, (rangeSem a g (v.heap.size + 1)).run P w = .ok (.enter f args) w) :
    ∃ es, Stp P main (G (b.atR a (.code (.rangeFunc g ps assign body) :: k)) cs) v
      (G (Frame.enter P f args .normal) (b.atR { a with defers := { target := .collected v.heap.size, args := #[] } :: a.defers } (.inRangeFunc (v.heap.size + 1) :: k) :: cs))
      ((v.alloc (.deferred (some []))).alloc (.loop { state := .ready, pending := none, fn := b.fn, tmps := a.tmps, params := ps, assign, body, defers := v.heap.size })) es := by
  have hk' : (b.kind == CallKind.early) = false := by simpa using hk
  have he : ∀ w : World, w.heap.size = v.heap.size → (Instr.enterLoop b.fn a.tmps ps assign body none).run P w = .ok (v.heap.size + 1, [{ target := .collected v.heap.size, args := #[] }])
      ((w.alloc (.deferred (some []))).alloc (.loop { state := .ready, pending := none, fn := b.fn, tmps := a.tmps, params := ps, assign, body, defers := v.heap.size })) := fun w hw => by
    rw [← hw]; exact run_enterLoop_outer (w := w) b.fn a.tmps ps assign body
  refine ⟨seen P b.fn ((Instr.enterLoop b.fn a.tmps ps assign body none).events P v #[]) ++ seen P b.fn ((rangeSem a g (v.heap.size + 1)).events P ((v.alloc (.deferred (some []))).alloc (.loop { state := .ready, pending := none, fn := b.fn, tmps := a.tmps, params := ps, assign, body, defers := v.heap.size })) #[]), ⟨fun F S w hw => ?_, fun _ _ w hw => rfl⟩⟩
  obtain ⟨w1, h1, h2, h3, h4, h5⟩ := (tame_enterLoop b.fn a.tmps ps assign body).ok (he v rfl) hw
  obtain ⟨w2, k1, k2, k3, k4, k5⟩ := ht.ok (hr _) h3
  rw [hr w1] at k1
  cases k1
  refine ⟨w1, ?_, k3, h4.trans k4, ?_⟩
  · rw [← h2, ← k2]
    have hev : ({ fn := b.fn, tmps := a.tmps, todo := .inRangeFunc (v.heap.size + 1) :: k, defers := { target := .collected v.heap.size, args := #[] } :: a.defers, mode := .run, kind := b.kind } : Frame).eval = a.eval := by
      funext x; cases x <;> rfl
    have hr1 := hr w1
    unfold rangeSem at hr1 ⊢
    simp only [G, stepG, stepG.exec, Frame.atR, hb, h1, Sem.runT_eq, stepG.apply, List.singleton_append, hev, hr1]
    simp [GStep.after, hk']
  · intro e hm
    rcases Array.mem_append.1 hm with hm | hm
    · exact mem_seen' h5 e hm
    · exact mem_seen' k5 e hm
theorem Stp.endRange {main : Bool} {b : Frame} {a : Act} {k : List Item} {cs : List Frame} {l : Nat} {v v' : World} {jump : Option Code} (hr : (Instr.endLoop l).run P v = .ok jump v') :
    ∃ es, Stp P main (G (b.atR a (.endRangeFunc l :: k)) cs) v (G (b.atR a ((jump.map Item.code).toList ++ k)) cs) v' es := by
  refine ⟨seen P b.fn ((Instr.endLoop l).events P v #[]), ⟨fun F S w hw => ?_, fun _ _ w hw => ?_⟩⟩
  · obtain ⟨w', h1, h2, h3, h4, h5⟩ := (tame_endLoop l).ok hr hw
    refine ⟨w', ?_, h3, h4, mem_seen' h5⟩
    rw [← h2]
    simp [G, stepG, stepG.exec, Frame.atR, h1, Sem.runT_eq, GStep.after]
  · obtain ⟨w', h1, _, _, h4, _⟩ := (tame_endLoop l).ok hr hw.self
    rw [hr] at h1
    cases h1
    exact h4.output
/-- What becomes of a statement whose rounds have left this jump. -/
def rangeQ (Q : Exit → Act → World → Prop) (a : Act) : Option Code → World → Prop
  | none, v => Q .normal a v
  | some .ret, v => Q .ret a v
  | some (.exit id), v => Q (.exit id) a v
  | _, _ => False
abbrev recIn (fn : FuncId) (a : Act) (ps : Array Tmp) (assign body : Code) (D : Nat) : Loop := { state := .ready, pending := none, fn, tmps := a.tmps, params := ps, assign, body, defers := D }
theorem wp_rangeFunc {g : Operand} {ps : Array Tmp} {assign body : Code} {Q : Exit → Act → World → Prop} {a : Act} {v : World}
    (h : ∀ fn v₁, Rl v v₁ → ∃ f args, Tame P (rangeSem a g (v₁.heap.size + 1)) ∧ (∀ w, (rangeSem a g (v₁.heap.size + 1)).run P w = .ok (.enter f args) w) ∧
      Calls P f args ((v₁.alloc (.deferred (some []))).alloc (.loop (recIn fn a ps assign body v₁.heap.size))) fun e v3 => (∃ x, e = .returned x) ∧
        ∀ v4, Rl v3 v4 → ∃ jump v5, (Instr.endLoop (v₁.heap.size + 1)).run P v4 = .ok jump v5 ∧ rangeQ Q { a with defers := { target := .collected v₁.heap.size, args := #[] } :: a.defers } jump v5) :
    wp P (.rangeFunc g ps assign body) Q a v := by
  intro b k cs hb
  have hro : b.roundOf = none := hb.2.resolve_right (by simp [fits])
  refine Gs.step' rfl fun v₁ h1 => ?_
  obtain ⟨f, args, ht, hr, hc⟩ := h b.fn v₁ h1
  obtain ⟨es, h2⟩ := Stp.ranges (main := I.main) (k := k) (cs := cs) (ps := ps) (assign := assign) (body := body) hro hb.1 ht hr
  refine ⟨_, _, _, h2, (hc _).bind ?_⟩
  rintro g' w' ⟨e, fr, v0, ⟨⟨x, rfl⟩, hend⟩, hr0, rfl, _, hle⟩
  refine Gs.step' rfl fun v2 h3 => ?_
  obtain ⟨es, h4⟩ := Stp.leaving (main := I.main) (c := b.atR { a with defers := { target := .collected v₁.heap.size, args := #[] } :: a.defers } (.inRangeFunc (v₁.heap.size + 1) :: k)) (cs := cs) (hle.rely h3)
  refine ⟨_, _, _, h4, Gs.step' rfl fun v4 h5 => ?_⟩
  obtain ⟨jump, v5, h6, h7⟩ := hend v4 ((hr0.trans h3).trans h5)
  obtain ⟨es, h8⟩ := Stp.endRange (main := I.main) (b := b) (a := { a with defers := { target := .collected v₁.heap.size, args := #[] } :: a.defers }) (k := k) (cs := cs) h6
  refine ⟨_, _, _, h8, ?_⟩
  match jump, h7 with
  | none, h7 => exact Out.now (e := .normal) h7 rfl
  | some .ret, h7 => exact Out.now (e := .ret) h7 ⟨k, rfl⟩
  | some (.exit id), h7 => exact Out.now (e := .exit id) h7 ⟨k, rfl, rfl⟩
end
end Go.Proofs.YtofkhehcnfiopaaDoor.N
namespace Go.Proofs.YtofkhehcnfiopaaDoor.N
open Go Go.RowKit Go.Proofs
set_option linter.unusedSectionVars false
variable [I : Sys]
/-! A range over a function, in terms of what is owned. -/
section
variable {C : Ctx} {fr frC : List (Nat × Value)} {hp hp' : List Res} {a : Act} {w : World} {ops : Array Oper} {Q : Exit → Act → World → Prop} {rest : List Oper}
  {d : Nat} {ty : TypeId} {pos : String} {after : Array Edge} {r : Nat}
theorem At.putRec {rec rec' : Loop} (ha : At C fr (.blk r (.loop rec) :: hp) a w) : At C fr (.blk r (.loop rec') :: hp) a (w.putObj r (.loop rec')) := by
  have hb := ha.own _ (List.mem_cons_self ..)
  refine ha.turn (Upd.head hp) ⟨rfl, rfl, rfl, by simp, fun k _ hk => World.putObj_heap_other (fun e => hk (by rw [e]; rfl))⟩ ⟨hb.1, ?_⟩ (fun k hk => .inl hk)
  exact World.putObj_heap_same (Array.getElem?_eq_some_iff.1 hb.2).1
/-- A call of yield. -/
def YieldAt (P : Program) (r : Nat) (args : Array Value) (v : World) (R : Ending → World → Prop) : Prop :=
  ∃ rec : Loop, v.heap[r]? = some (.loop rec) ∧ args.size = rec.params.size ∧
    Rounds P r rec.fn ((rec.params.zip args).foldl (fun t (x : Tmp × Value) => t.setIfInBounds x.1 x.2) rec.tmps) rec.assign rec.body v R
theorem YieldAt.mono {P : Program} {args : Array Value} {v : World} {R R' : Ending → World → Prop} (h : YieldAt P r args v R) (hr : ∀ e v', R e v' → R' e v') : YieldAt P r args v R' := by
  obtain ⟨rec, h1, h2, h3⟩ := h
  exact ⟨rec, h1, h2, h3.mono hr⟩
theorem tame_yield {P : Program} (r : Nat) (args : Array Value) : Tame P (Instr.yield r args) := Tame.bind (tame_getLoop r) fun rec => by
  show Tame P (if args.size ≠ rec.params.size then _ else _)
  split
  · exact Tame.bind (tame_stuck _) fun _ => trivial
  · trivial
theorem lst_yield {X : Type} {x : Operand} {vs : List Value} {args : Array Operand} {ts : Array TypeId} {p : X → Prop} {val : X → Value} {rs : X → List Res} (hd : Nat.blt d C.N = true)
    (hx : ev fr x = some (.func (.yield r) #[] #[])) (hargs : args.toList.map (ev fr) = vs.map some)
    (hc : ∀ a w, At C fr hp a w → YieldAt C.P r vs.toArray w fun e w' => ∃ y, p y ∧ e = .returned (val y) ∧ At C fr (rs y) a w')
    (k : ∀ y, p y → Lst C ops Q rest ((d, val y) :: fr) (rs y)) :
    Lst C ops Q (⟨some d, .call { callee := .value x, args := args, argTypes := ts }, ty, pos, after, none⟩ :: rest) fr hp := by
  refine lst_of rfl fun a w ha => ?_
  obtain ⟨rec, h1, h2, h3⟩ := hc a w ha
  have he : execOp a.eval ⟨some d, .call { callee := .value x, args := args, argTypes := ts }, ty, pos, after, none⟩ = Instr.yield r vs.toArray := by
    simp only [execOp, resolve, ev_args ha hargs, ha.eval hx, Deferred.ofValue]
    simp [invoke]
  refine ⟨by rw [he]; exact tame_yield _ _, ?_⟩
  rw [he, run_yield h1 h2]
  refine h3.mono ?_
  rintro e w' ⟨y, h4, rfl, h5⟩
  exact k y h4 _ _ (h5.put (lt_of_blt hd) _)
/-- The round that is called, walked in its own frame. -/
theorem yield_in {X : Type} {frB : X → List (Nat × Value)} {hp1 : X → List Res} {P : Program} {B N0 N : Nat} {w0 : World} {ds0 : List Deferred} {frI : List (Nat × Value)} {hpI : List Res} {aI : Act} {rec : Loop} {v : Value} {R : Ending → World → Prop}
    (ha : At ⟨P, B, w0, N0, ds0⟩ frI (.blk r (.loop rec) :: hpI) aI w) (hready : rec.state = .ready) (hps : rec.params = #[d]) (hsz : rec.tmps.size = N) (hd : Nat.blt d N = true) (hsl : ∀ t u, look frC t = some u → rec.tmps.getD t undef = u)
    (hfa : fits rec.assign = true) (hfb : fits rec.body = true)
    (hassign : ∀ K : Act → World → Prop, (∀ x, Ex ⟨P, B, w0, N, []⟩ (Exit.then K (fun _ _ _ => False)) .normal (frB x) (.blk r (.loop rec) :: hp1 x)) → Cod ⟨P, B, w0, N, []⟩ rec.assign (Exit.then K (fun _ _ _ => False)) ((d, v) :: frC) (.blk r (.loop rec) :: hpI))
    (hbody : ∀ x, Cod ⟨P, B, w0, N, []⟩ rec.body (roundPost P r R) (frB x) (.blk r (.loop { rec with state := .busy }) :: hp1 x)) : YieldAt P r [v].toArray w R := by
  have hl := (ha.own _ (List.mem_cons_self ..)).2
  refine ⟨rec, hl, by rw [hps]; simp, rounds_of_wp hfa hfb ?_⟩
  have e : (rec.params.zip [v].toArray).foldl (fun t (x : Tmp × Value) => t.setIfInBounds x.1 x.2) rec.tmps = rec.tmps.setIfInBounds d v := by rw [hps]; simp
  rw [e]
  have h0 : At ⟨P, B, w0, N, []⟩ frC (.blk r (.loop rec) :: hpI) { tmps := rec.tmps, defers := [] } w := ⟨hsz, rfl, hsl, ha.below, ha.base, ha.own, ha.apart⟩
  refine hassign _ ?_ _ _ (h0.put (lt_of_blt hd) v)
  intro x a w ha v₁ hv
  have ha1 := ha.rely hv
  exact ⟨_, run_beginRound (ha1.own _ (List.mem_cons_self ..)).2 hready, hbody x a _ ha1.putRec⟩
theorem round_goes {P : Program} {B N : Nat} {w0 : World} {ds : List Deferred} {rec : Loop} {R : Ending → World → Prop} (hready : rec.state = .ready) (hpe : rec.pending = none)
    (k : ∀ a w, At ⟨P, B, w0, N, ds⟩ fr (.blk r (.loop rec) :: hp) a w → R (.returned (.bool true)) w) : Ex ⟨P, B, w0, N, ds⟩ (roundPost P r R) .normal fr (.blk r (.loop { rec with state := .busy }) :: hp) := by
  intro a w ha v₁ hv
  have ha1 := ha.rely hv
  obtain ⟨st, pe, _, _, _, _, _, _⟩ := rec
  simp only at hready hpe
  subst hready; subst hpe
  exact ⟨_, _, run_endRound (P := P) none (ha1.own _ (List.mem_cons_self ..)).2, k a _ ha1.putRec⟩
/-- A round that is left by a jump. -/
def isJump : Exit → Code → Prop
  | .ret, .ret => True
  | .exit i, .exit j => i = j
  | _, _ => False
theorem round_jumps {P : Program} {B N : Nat} {w0 : World} {ds : List Deferred} {rec : Loop} {R : Ending → World → Prop} {e : Exit} {j : Code} (hj : isJump e j)
    (k : ∀ a w, At ⟨P, B, w0, N, ds⟩ fr (.blk r (.loop { rec with state := .done, pending := some j }) :: hp) a w → R (.returned (.bool false)) w) : Ex ⟨P, B, w0, N, ds⟩ (roundPost P r R) e fr (.blk r (.loop { rec with state := .busy }) :: hp) := by
  intro a w ha
  have key : ∀ v₁, Rl w v₁ → ∃ x v', (Instr.endRound r (some j)).run P v₁ = .ok x v' ∧ R (.returned x) v' := fun v₁ hv =>
    have ha1 := ha.rely hv
    ⟨_, _, run_endRound (P := P) (some j) (ha1.own _ (List.mem_cons_self ..)).2, k a _ ha1.putRec⟩
  cases e <;> cases j <;> first | exact hj.elim | exact key | (simp only [isJump] at hj; subst hj; exact key)
/-- The statement; the rounds may leave a jump. -/
theorem cod_range {Y : Type} {P : Program} {B N : Nat} {w0 : World} {ds : List Deferred} {g : Operand} {ps : Array Tmp} {assign body : Code} {gf : FuncId} {lb : List Value} (p : Y → Prop) (jump : Y → Option Code) (ex : Y → Exit) (rs : Y → List Res)
    (hg : ev fr g = some (.func (.func gf) #[] lb.toArray)) (he : Enters P gf) (hj : ∀ y, p y → jump y = none ∧ ex y = .normal ∨ ∃ c, jump y = some c ∧ isJump (ex y) c)
    (h : ∀ (r D : Nat) (rec : Loop) (a : Act) (w : World), rec.state = .ready → rec.pending = none → rec.params = ps → rec.assign = assign → rec.body = body → rec.tmps.size = N → (∀ t u, look fr t = some u → rec.tmps.getD t undef = u) →
      At ⟨P, B, w0, N, ds⟩ fr (.blk r (.loop rec) :: .blk D (.deferred (some [])) :: hp) a w →
      Calls P gf (#[.func (.yield r) #[] #[]] ++ lb.toArray) w fun e w' => (∃ v, e = .returned v) ∧ ∃ y, p y ∧ At ⟨P, B, w0, N, ds⟩ fr (.blk r (.loop { rec with state := if (jump y).isNone then .ready else .done, pending := jump y }) :: .blk D (.deferred (some [])) :: rs y) a w')
    (k : ∀ (D : Nat) (y : Y), p y → Ex ⟨P, B, w0, N, { target := .collected D, args := #[] } :: ds⟩ Q (ex y) fr (.blk D (.deferred (some [])) :: rs y)) : Cod ⟨P, B, w0, N, ds⟩ (.rangeFunc g ps assign body) Q fr hp := by
  intro a w ha
  refine wp_rangeFunc fun fn v₁ hv => ?_
  have ha1 := ha.rely hv
  have hrun : ∀ w, (rangeSem a g (v₁.heap.size + 1)).run P w = .ok (.enter gf (#[.func (.yield (v₁.heap.size + 1)) #[] #[]] ++ lb.toArray)) w := fun w => by
    unfold rangeSem
    simp only [resolve, ha.eval hg, Deferred.ofValue, Sem.run_bind, Sem.run_pure, Result.andThen_ok, invoke]
    have := he.1 (#[.func (.yield (v₁.heap.size + 1)) #[] #[]] ++ lb.toArray) w
    simpa [Act.eval] using this
  have htame : Tame P (rangeSem a g (v₁.heap.size + 1)) := by
    unfold rangeSem
    show Tame P (Deferred.ofValue (a.eval g) _ >>= fun d => invoke d.target d.args)
    rw [ha.eval hg]
    exact he.2 _
  refine ⟨gf, _, htame, hrun, ?_⟩
  have h1 := (ha1.alloc (.deferred (some []))).alloc (.loop (recIn fn a ps assign body v₁.heap.size))
  have h2 : (v₁.alloc (.deferred (some []))).heap.size = v₁.heap.size + 1 := by simp
  rw [h2] at h1
  refine (h (v₁.heap.size + 1) v₁.heap.size (recIn fn a ps assign body v₁.heap.size) a _ rfl rfl rfl rfl rfl ha1.size (fun t u hu => ha1.slots t u hu) h1).mono ?_
  rintro e w3 ⟨hx, y, hy, h3⟩
  refine ⟨hx, fun v4 hv4 => ?_⟩
  have h4 := h3.rely hv4
  have hb := (h4.own _ (List.mem_cons_self ..)).2
  have h5 := (h4.putRec (rec' := { (recIn fn a ps assign body v₁.heap.size) with state := .exhausted, pending := jump y })).drop_res (List.Sublist.cons _ (List.Sublist.refl _))
  have hend := run_endLoop (P := P) hb (by dsimp only; split <;> simp)
  refine ⟨_, _, hend, ?_⟩
  have h6 := k v₁.heap.size y hy { a with defers := { target := .collected v₁.heap.size, args := #[] } :: a.defers } _ ⟨h5.size, congrArg (_ :: ·) ha1.defs, h5.slots, h5.below, h5.base, h5.own, h5.apart⟩
  rcases hj y hy with ⟨e1, e2⟩ | ⟨c, e1, e2⟩
  · rw [e2] at h6; simp only [e1] at h6 ⊢; exact h6
  · simp only [e1] at h6 ⊢
    cases hex : ex y <;> rw [hex] at e2 h6 <;> cases c <;> first | exact e2.elim | exact h6 | (simp only [isJump] at e2; subst e2; exact h6)
end
end Go.Proofs.YtofkhehcnfiopaaDoor.N
namespace Go.Proofs.YtofkhehcnfiopaaDoor.N
open Go Go.RowKit Go.Proofs
set_option linter.unusedSectionVars false
variable [I : Sys]
/-! Calls, rounds and drawn regions behind which the ghost has turned. -/
section
variable {C : Ctx} {fr frC : List (Nat × Value)} {hp hp' hpS : List Res} {a : Act} {w : World} {ops : Array Oper} {Q : Exit → Act → World → Prop} {rest : List Oper}
  {d : Nat} {ty : TypeId} {pos : String} {after : Array Edge} {r fuel : Nat} {listed listed' : Array Bool}
abbrev Gout : Type := Array (Nat × ByteArray)
theorem At.backO {N' : Nat} {ds' : List Deferred} {fr0 : List (Nat × Value)} {hp0 : List Res} {a0 : Act} {w0 : World} {x : Gout} (h0 : At C fr0 hp0 a0 w0) (h : At ⟨C.P, C.B, saying C.w0 x, N', ds'⟩ fr hp a w) : At (C.out x) fr0 hp a0 w :=
  ⟨h0.size, h0.defs, h0.slots, h.below, h.base, h.own, h.apart⟩
theorem lst_callO {X : Type} {x : Operand} {f : FuncId} {first cap vs : List Value} {args : Array Operand} {ts : Array TypeId} {p : X → Prop} {o : X → Gout} {val : X → Value} {rs : X → List Res} (hd : Nat.blt d C.N = true)
    (hx : ev fr x = some (.func (.func f) first.toArray cap.toArray)) (hargs : args.toList.map (ev fr) = vs.map some) (hf : Enters C.P f)
    (hc : ∀ a w, At C fr hp a w → Calls C.P f (first ++ vs ++ cap).toArray w fun e w' => ∃ y, p y ∧ e = .returned (val y) ∧ At (C.out (o y)) fr (rs y) a w')
    (k : ∀ y, p y → Lst (C.out (o y)) ops Q rest ((d, val y) :: fr) (rs y)) : Lst C ops Q (⟨some d, .call { callee := .value x, args := args, argTypes := ts }, ty, pos, after, none⟩ :: rest) fr hp := by
  refine lst_of rfl fun a w ha => ?_
  refine ⟨tame_callV (ha.eval hx) hf.2, ?_⟩
  have hr : (execOp a.eval ⟨some d, .call { callee := .value x, args := args, argTypes := ts }, ty, pos, after, none⟩).run C.P w = .ok (.enter f (first ++ vs ++ cap).toArray) w := by
    simp only [execOp, resolve, ev_args ha hargs, ha.eval hx, Deferred.ofValue, Sem.run_bind, Sem.run_pure, Result.andThen_ok, invoke, List.append_toArray]
    exact hf.1 _ w
  rw [hr]
  show Calls C.P f _ w _
  refine (hc a w ha).mono ?_
  rintro e w' ⟨x, h1, rfl, h2⟩
  exact k x h1 _ _ (h2.put (lt_of_blt hd) _)
/-! Drawn regions. -/
theorem anyO_begin {id : Nat} {l : List Oper} (hpS : List Res) (hm : C.P.follows .mixedOrders = true) (n : Nat) (hn : l.length = n) (lst : List Bool) (hl : Array.replicate n false = lst.toArray) (h : AnyO C l.toArray Q hpS n lst.toArray fr hp) :
    Cod C (.region id l.toArray true) Q fr hp := anyO_start hm n hn lst hl h
theorem anyO_done (hr : Region.ready .any ops listed = []) (h : Ex C Q .normal fr hp) : AnyO C ops Q hpS fuel listed fr hp := fun a w ha => wpAnyH_done hr (Lax.of (show OnlyN Q .normal a w from h a w ha)) fuel
theorem anyO_nextO {x : Gout} (hs : hpS.Sublist hp) (h : AnyO (C.out x) ops Q hpS fuel listed fr hp) : Ex (C.out x) (Exit.then (NxtO C ops Q hpS fuel listed) (Lax (OnlyN Q))) .normal fr hp :=
  fun a w ha => ⟨⟨x, ha.toMem hs⟩, h a w ha⟩
/-! A range over a function. -/
/-- Yields of one list behind the other, until one says that it is enough. -/
inductive Runs {X : Type} (step : X → List Nat → X → Bool → Prop) : X → List (List Nat) → X → Bool → Prop
  | nil (x : X) : Runs step x [] x true
  | cons {x x' x'' : X} {l : List Nat} {ls : List (List Nat)} {b : Bool} (h : step x l x' true) (k : Runs step x' ls x'' b) : Runs step x (l :: ls) x'' b
  | stop {x x' : X} {l : List Nat} {ls : List (List Nat)} (h : step x l x' false) : Runs step x (l :: ls) x' false
theorem Runs.app {X : Type} {step : X → List Nat → X → Bool → Prop} {x x' x'' : X} {l m : List (List Nat)} {b : Bool} (h : Runs step x l x' true) (k : Runs step x' m x'' b) : Runs step x (l ++ m) x'' b := by
  generalize ht : true = t at h
  induction h with
  | nil x => exact k
  | cons h1 _ ih => exact .cons h1 (ih k ht)
  | stop h1 => cases ht
/-- Such yields may come. -/
def Ready {X : Type} (pre : X → List Nat → Prop) (step : X → List Nat → X → Bool → Prop) : X → List (List Nat) → Prop
  | _, [] => True
  | x, l :: ls => pre x l ∧ ∀ x', step x l x' true → Ready pre step x' ls
theorem Ready.left {X : Type} {pre : X → List Nat → Prop} {step : X → List Nat → X → Bool → Prop} : ∀ {ls ms : List (List Nat)} {x : X}, Ready pre step x (ls ++ ms) → Ready pre step x ls
  | [], _, _, _ => trivial
  | _ :: _, _, _, h => ⟨h.1, fun x' hx => Ready.left (h.2 x' hx)⟩
theorem Ready.right {X : Type} {pre : X → List Nat → Prop} {step : X → List Nat → X → Bool → Prop} {ls ms : List (List Nat)} {x x' : X} (h : Ready pre step x (ls ++ ms)) (hr : Runs step x ls x' true) : Ready pre step x' ms := by
  generalize ht : true = t at hr
  induction hr with
  | nil x => exact h
  | cons h1 _ ih => exact ih (h.2 _ h1) ht
  | stop h1 => cases ht
end
end Go.Proofs.YtofkhehcnfiopaaDoor.N
namespace Go.Proofs.YtofkhehcnfiopaaDoor.N
open Go Go.RowKit Go.Proofs
set_option linter.unusedSectionVars false
variable [I : Sys]
/-- A list that stands for a set of numbers below n. -/
def SetOk (n : Nat) (v : List Nat) : Prop := v.Pairwise (· < ·) ∧ ∀ i ∈ v, i < n
theorem setOk_nil (n : Nat) : SetOk n [] := ⟨.nil, fun i hi => absurd hi List.not_mem_nil⟩
theorem SetOk.snoc {n i : Nat} {v : List Nat} (h : SetOk n v) (hi : i < n) (hv : ∀ j ∈ v, j < i) : SetOk n (v ++ [i]) := by
  refine ⟨List.pairwise_append.2 ⟨h.1, List.pairwise_singleton .., fun a ha b hb => ?_⟩, fun j hj => ?_⟩
  · rw [List.mem_singleton.1 hb]; exact hv a ha
  · rcases List.mem_append.1 hj with h1 | h1
    · exact h.2 j h1
    · rw [List.mem_singleton.1 h1]; exact hi
theorem SetOk.mask {n : Nat} {v : List Nat} (h : SetOk n v) (hn : n ≤ 4) : maskL v < 16 := maskL_lt16 fun i hi => by have := h.2 i hi; omega
abbrev fromV (yb nb fb : Nat) : Value := .func (.func 126) ([] : List Value).toArray [.pointer (some ⟨yb, 0, none⟩), .pointer (some ⟨nb, 0, none⟩), .pointer (some ⟨fb, 0, none⟩)].toArray
abbrev yieldV (r : Nat) : Value := .func (.yield r) #[] #[]
/-- How a walk through sets ends: none does it, or the first that does it is said. -/
def FromS {Y : Type} (lst : Y → List Nat) (G : List Nat → Prop) (pre : List Nat) (l : List (List Nat)) : Option Y → Prop
  | none => ∀ v ∈ l, ¬ G (pre ++ v)
  | some y => ∃ (i : Nat) (v : List Nat), l[i]? = some v ∧ G (pre ++ v) ∧ (∀ (j : Nat) (u : List Nat), j < i → l[j]? = some u → ¬ G (pre ++ u)) ∧ lst y = pre ++ v
theorem FromS.map {Y : Type} {lst : Y → List Nat} {G : List Nat → Prop} {pre : List Nat} {x : Nat} {l0 l : List (List Nat)} {y : Y} (h0 : ∀ v ∈ l0, ¬ G (pre ++ v)) (h : FromS lst G (pre ++ [x]) l (some y)) (rest : List (List Nat)) :
    FromS lst G pre (l0 ++ l.map (x :: ·) ++ rest) (some y) := by
  obtain ⟨i, v, h1, h2, h3, h4⟩ := h
  have hi : i < l.length := (List.getElem?_eq_some_iff.1 h1).1
  have e : pre ++ x :: v = pre ++ [x] ++ v := by simp
  refine ⟨l0.length + i, x :: v, ?_, by rw [e]; exact h2, ?_, by rw [e]; exact h4⟩
  · rw [List.append_assoc, List.getElem?_append_right (by omega), Nat.add_sub_cancel_left, List.getElem?_append_left (by rw [List.length_map]; exact hi), List.getElem?_map, h1]
    rfl
  · intro j u hj hu
    rcases Nat.lt_or_ge j l0.length with h6 | h6
    · rw [List.append_assoc, List.getElem?_append_left h6] at hu
      exact h0 u (List.mem_of_getElem? hu)
    · rw [List.append_assoc, List.getElem?_append_right h6, List.getElem?_append_left (by rw [List.length_map]; omega), List.getElem?_map] at hu
      obtain ⟨u', hu', rfl⟩ := Option.map_eq_some_iff.1 hu
      have := h3 (j - l0.length) u' (by omega) hu'
      rw [show pre ++ x :: u' = pre ++ [x] ++ u' by simp]
      exact this
theorem chs_split {n k f i : Nat} (h : f ≤ i) (hi : i < n) : ∃ rest, chsL n (k + 1) f = chsT n k f i ++ (chsL n k (i + 1)).map (i :: ·) ++ rest := by
  rw [← chsT_succ h]
  unfold chsL chsT
  have e : n - f = (i + 1 - f) + (n - (i + 1)) := by omega
  rw [e, ← List.range'_append_1, List.flatMap_append]
  exact ⟨_, rfl⟩
/-- What the caller of a walk through sets owns: T0 until one is found, T1 then. -/
def TO {Y : Type} (T0 : List Res) (T1 : Y → List Res) : Option Y → List Res
  | none => T0
  | some y => T1 y
section
theorem ex_pck {C : Ctx} {Q : Exit → Act → World → Prop} {e : Exit} {fr : List (Nat × Value)} {hp hp' : List Res} (h : Pck hp' hp) (k : Ex C Q e fr hp') : Ex C Q e fr hp := fun a w ha => k a w (ha.pck h)
theorem cod_is {C : Ctx} {Q : Exit → Act → World → Prop} {c c' : Code} {fr : List (Nat × Value)} {hp : List Res} (h : c = c') (k : Cod C c' Q fr hp) : Cod C c Q fr hp := h ▸ k
theorem res_cc {C : Ctx} {fr : List (Nat × Value)} {hp : List Res} {a : Act} {w : World} {fn : Func} {t u : Nat} {ty ct ty' ct' : TypeId} {x y : Value} {b b' : Nat} (ha : At C fr hp a w) (h : fn.results = #[.cell t ty, .cell u ty']) (ht : look fr t = some (.pointer (some ⟨b, 0, none⟩))) (hu : look fr u = some (.pointer (some ⟨b', 0, none⟩))) (h1 : One C.P ty) (h2 : One C.P ty')
    [hm : InB b (.cells [x].toArray ct (0, 0)) hp] [hm' : InB b' (.cells [y].toArray ct' (0, 0)) hp] : ResV C.P fn a.tmps (.tuple #[x, y]) w := by
  refine ⟨tame_results .., fun v₁ hrely => ?_⟩
  have ha := ha.rely hrely
  have e1 := ha.slots t _ ht
  have e2 := ha.slots u _ hu
  have c1 : v₁.cell? ⟨b, 0, none⟩ = some x := cell_of_blk (ha.mem_blk hm.mem) rfl
  have c2 : v₁.cell? ⟨b', 0, none⟩ = some y := cell_of_blk (ha.mem_blk hm'.mem) rfl
  have l1 : (loadVar ty ⟨b, 0, none⟩).run C.P v₁ = .ok x v₁ := by simp [loadVar, run_isAgg h1.1 h1.2, c1]
  have l2 : (loadVar ty' ⟨b', 0, none⟩).run C.P v₁ = .ok y v₁ := by simp [loadVar, run_isAgg h2.1 h2.2, c2]
  simp only [results, h, Array.getD_eq_getD_getElem?] at e1 e2 ⊢
  simp [e1, e2, run_asAddr, l1, l2]
/-- What a call of yield with a set does. -/
def YSpF (P : Program) (B : Nat) (w0 : World) (r n : Nat) (G : List Nat → Prop) {Y : Type} (lst : Y → List Nat) (T0 : List Res) (T1 : Y → List Res) : Prop :=
  ∀ (v : List Nat) (_ : SetOk n v) (N : Nat) (ds : List Deferred) (fr : List (Nat × Value)) (hp : List Res) (a : Act) (w : World), At ⟨P, B, w0, N, ds⟩ fr (hp ++ T0) a w →
    YieldAt P r [.int .u8 (maskL v : Nat)].toArray w fun e w' => ∃ o : Option Y, FromS lst G v [[]] o ∧ e = .returned (.bool o.isNone) ∧ At ⟨P, B, w0, N, ds⟩ fr (hp ++ TO T0 T1 o) a w'
/-- The end of a function that has ranged over one, behind a deferred call of 'caught'. -/
theorem ex_ret_caughtM {B N D b : Nat} {w0 : World} {fn : Func} {R : Ending → World → Prop} {fr : List (Nat × Value)} {hp : List Res}
    (k : ∀ a w, At ⟨Tryd.prog, B, w0, N, [{ target := .collected D, args := #[] }, caughtD b]⟩ fr (.blk D (.deferred none) :: hp) a w → ∃ v, ResV Tryd.prog fn a.tmps v w ∧ R (.returned v) w) :
    Ex ⟨Tryd.prog, B, w0, N, [{ target := .collected D, args := #[] }, caughtD b]⟩ (bodyPostD Tryd.prog fn R) .ret fr (.blk D (.deferred (some [])) :: hp) := by
  intro a w ha
  show Leaves Tryd.prog fn a.tmps R a.defers .returning w
  rw [ha.defs]
  refine leaves_take (by simp) fun v₁ hv => ?_
  have ha1 := ha.rely hv
  have hD := (ha1.own _ (List.mem_cons_self ..)).2
  have at2 : At ⟨Tryd.prog, B, w0, N, [{ target := .collected D, args := #[] }, caughtD b]⟩ fr (.blk D (.deferred none) :: hp) a (v₁.putObj D (.deferred none)) := by
    refine ha1.turn (Upd.head _) ⟨rfl, rfl, rfl, by simp, fun k _ hk => World.putObj_heap_other (fun e => hk (by rw [e]; rfl))⟩ ⟨(ha1.own _ (List.mem_cons_self ..)).1, ?_⟩ (fun k hk => .inl hk)
    exact World.putObj_heap_same (Array.getElem?_eq_some_iff.1 hD).1
  refine ⟨_, run_takeDeferred hD, ?_⟩
  refine leaves_cons (by simp) (caught_enters b) ((caught_ret _ _).mono ?_)
  rintro e u w' ⟨rfl, rfl, hr⟩
  obtain ⟨v, h1, h2⟩ := k a w' (at2.rely hr)
  exact ⟨v, h1, h2⟩
end
end Go.Proofs.YtofkhehcnfiopaaDoor.N
namespace Go.Proofs.YtofkhehcnfiopaaDoor.N
open Go Go.RowKit Go.Proofs
set_option linter.unusedSectionVars false
variable [I : Sys]
theorem F.ent126 : Enters Tryd.prog 126 := enters_of Tryd.func126 rfl (by kernel_rfl)
theorem F.one162 : One Tryd.prog 162 := ⟨by unfold aggB; rw [Tryd.underlying162], by rw [Tryd.underlying162]; simp⟩
theorem F.one163 : One Tryd.prog 163 := ⟨by unfold aggB; rw [Tryd.underlying163], by rw [Tryd.underlying163]; simp⟩
theorem F.ti163 : TI Tryd.prog 163 (.nilFunc) 1 8 := TI.of (by kernel_rfl)
theorem from_0 {Y : Type} {lst : Y → List Nat} {G : List Nat → Prop} {T0 : List Res} {T1 : Y → List Res} {B r yb nb fb n : Nat} {w0 : World} (pre : List Nat) (f : Nat) (hY : YSpF Tryd.prog B w0 r n G lst T0 T1) (hp0 : SetOk n pre) {N : Nat} {ds : List Deferred} {fr : List (Nat × Value)} {hp : List Res} {a : Act} {w : World} (ha0 : At ⟨Tryd.prog, B, w0, N, ds⟩ fr (.blk fb (.cells [fromV yb nb fb].toArray 163 (0, 0)) :: .blk yb (.cells [yieldV r].toArray 162 (0, 0)) :: .blk nb (.cells [.int .i64 (n : Int)].toArray 3 (0, 0)) :: (hp ++ T0)) a w) : Calls Tryd.prog 126 #[.int .u8 (maskL pre : Nat), .int .i64 (f : Int), .int .i64 0, .pointer (some ⟨yb, 0, none⟩), .pointer (some ⟨nb, 0, none⟩), .pointer (some ⟨fb, 0, none⟩)] w (fun e w' => ∃ o : Option Y, FromS lst G pre (chsL n 0 f) o ∧ e = .returned (.bool o.isNone) ∧ At ⟨Tryd.prog, B, w0, N, ds⟩ fr (.blk fb (.cells [fromV yb nb fb].toArray 163 (0, 0)) :: .blk yb (.cells [yieldV r].toArray 162 (0, 0)) :: .blk nb (.cells [.int .i64 (n : Int)].toArray 3 (0, 0)) :: (hp ++ TO T0 T1 o)) a w') := by
  refine enter_in (N := 33) [(0, .int .u8 (maskL pre : Nat)), (1, .int .i64 (f : Int)), (2, .int .i64 0), (3, .pointer (some ⟨yb, 0, none⟩)), (4, .pointer (some ⟨nb, 0, none⟩)), (5, .pointer (some ⟨fb, 0, none⟩))] ha0 Tryd.func126 rfl Tryd.ntmps126 rfl rfl ?_
  refine cod_seq ?_
  refine cod_region ?_
  refine lst_assign rfl rfl ?_
  refine lst_nil ?_
  refine ex_then ?_
  refine cod_seq ?_
  refine cod_seq ?_
  refine cod_region ?_
  refine lst_move rfl rfl ?_
  refine lst_int rfl rfl rfl bin_eql ?_
  refine lst_nil ?_
  refine ex_then ?_
  refine cod_cond_true rfl ?_
  refine cod_seq ?_
  refine cod_region ?_
  refine lst_load rfl rfl F.one162 ?_
  refine lst_move rfl rfl ?_
  refine lst_yield (X := Option Y) (vs := [_]) (p := fun o => FromS lst G pre [[]] o) (val := fun o => .bool o.isNone) (rs := fun o => .blk fb (.cells [fromV yb nb fb].toArray 163 (0, 0)) :: .blk yb (.cells [yieldV r].toArray 162 (0, 0)) :: .blk nb (.cells [.int .i64 (n : Int)].toArray 3 (0, 0)) :: (hp ++ TO T0 T1 o)) rfl rfl rfl (fun a w ha => (hY pre hp0 _ _ _ (.blk fb (.cells [fromV yb nb fb].toArray 163 (0, 0)) :: .blk yb (.cells [yieldV r].toArray 162 (0, 0)) :: .blk nb (.cells [.int .i64 (n : Int)].toArray 3 (0, 0)) :: hp) a w ha).mono (fun e w' h => h)) ?_
  rintro o ho
  dsimp only at ho ⊢
  refine lst_assign rfl rfl ?_
  refine lst_nil ?_
  refine ex_then ?_
  refine cod_ret ?_
  refine ex_then_ret ?_
  exact ex_ret rfl (fun a w ha => res_one rfl rfl ha) (fun a w ha => ⟨o, ho, rfl, ha0.back ha⟩)

theorem from_s {Y : Type} {lst : Y → List Nat} {G : List Nat → Prop} {T0 : List Res} {T1 : Y → List Res} {B r yb nb fb n : Nat} {w0 : World} (pre : List Nat) (f k : Nat) (hn : n ≤ 4) (hY : YSpF Tryd.prog B w0 r n G lst T0 T1) (hf : f ≤ 5) (hk : k + 1 ≤ 5) (hp0 : SetOk n pre) (hpf : ∀ j ∈ pre, j < f)
    (ih : ∀ (f : Nat) (pre : List Nat), f ≤ 5 → SetOk n pre → (∀ j ∈ pre, j < f) → ∀ {N : Nat} {ds : List Deferred} {fr : List (Nat × Value)} {hp : List Res} {a : Act} {w : World}, At ⟨Tryd.prog, B, w0, N, ds⟩ fr (.blk fb (.cells [fromV yb nb fb].toArray 163 (0, 0)) :: .blk yb (.cells [yieldV r].toArray 162 (0, 0)) :: .blk nb (.cells [.int .i64 (n : Int)].toArray 3 (0, 0)) :: (hp ++ T0)) a w → Calls Tryd.prog 126 #[.int .u8 (maskL pre : Nat), .int .i64 (f : Int), .int .i64 (k : Int), .pointer (some ⟨yb, 0, none⟩), .pointer (some ⟨nb, 0, none⟩), .pointer (some ⟨fb, 0, none⟩)] w (fun e w' => ∃ o : Option Y, FromS lst G pre (chsL n k f) o ∧ e = .returned (.bool o.isNone) ∧ At ⟨Tryd.prog, B, w0, N, ds⟩ fr (.blk fb (.cells [fromV yb nb fb].toArray 163 (0, 0)) :: .blk yb (.cells [yieldV r].toArray 162 (0, 0)) :: .blk nb (.cells [.int .i64 (n : Int)].toArray 3 (0, 0)) :: (hp ++ TO T0 T1 o)) a w'))
    {N : Nat} {ds : List Deferred} {fr : List (Nat × Value)} {hp : List Res} {a : Act} {w : World} (ha0 : At ⟨Tryd.prog, B, w0, N, ds⟩ fr (.blk fb (.cells [fromV yb nb fb].toArray 163 (0, 0)) :: .blk yb (.cells [yieldV r].toArray 162 (0, 0)) :: .blk nb (.cells [.int .i64 (n : Int)].toArray 3 (0, 0)) :: (hp ++ T0)) a w) : Calls Tryd.prog 126 #[.int .u8 (maskL pre : Nat), .int .i64 (f : Int), .int .i64 ((k + 1 : Nat) : Int), .pointer (some ⟨yb, 0, none⟩), .pointer (some ⟨nb, 0, none⟩), .pointer (some ⟨fb, 0, none⟩)] w (fun e w' => ∃ o : Option Y, FromS lst G pre (chsL n (k + 1) f) o ∧ e = .returned (.bool o.isNone) ∧ At ⟨Tryd.prog, B, w0, N, ds⟩ fr (.blk fb (.cells [fromV yb nb fb].toArray 163 (0, 0)) :: .blk yb (.cells [yieldV r].toArray 162 (0, 0)) :: .blk nb (.cells [.int .i64 (n : Int)].toArray 3 (0, 0)) :: (hp ++ TO T0 T1 o)) a w') := by
  refine enter_in (N := 33) [(0, .int .u8 (maskL pre : Nat)), (1, .int .i64 (f : Int)), (2, .int .i64 ((k + 1 : Nat) : Int)), (3, .pointer (some ⟨yb, 0, none⟩)), (4, .pointer (some ⟨nb, 0, none⟩)), (5, .pointer (some ⟨fb, 0, none⟩))] ha0 Tryd.func126 rfl Tryd.ntmps126 rfl rfl ?_
  refine cod_seq ?_
  refine cod_region ?_
  refine lst_assign rfl rfl ?_
  refine lst_nil ?_
  refine ex_then ?_
  refine cod_seq ?_
  refine cod_seq ?_
  refine cod_region ?_
  refine lst_move rfl rfl ?_
  refine lst_int rfl rfl rfl bin_eql ?_
  refine lst_nil ?_
  refine ex_then ?_
  refine cod_cond_false rfl ?_
  refine cod_skip ?_
  refine ex_then ?_
  refine cod_seq ?_
  refine cod_seq ?_
  refine cod_region ?_
  refine lst_move rfl rfl ?_
  refine lst_assign rfl rfl ?_
  refine lst_nil ?_
  refine ex_then ?_
  refine cod_block ?_
  refine cod_loopC (T := Nat) (fun i => f ≤ i ∧ i ≤ max f n ∧ ∀ v ∈ chsT n k f i, ¬ G (pre ++ v)) (fun i => n - i) (fun _ => ⟨Tryd.prog, B, w0, 33, []⟩) (fun i => [(0, .int .u8 (maskL pre : Nat)), (2, .int .i64 ((k + 1 : Nat) : Int)), (3, .pointer (some ⟨yb, 0, none⟩)), (4, .pointer (some ⟨nb, 0, none⟩)), (5, .pointer (some ⟨fb, 0, none⟩)), (10, .int .i64 (i : Int))]) (fun _ => .blk fb (.cells [fromV yb nb fb].toArray 163 (0, 0)) :: .blk yb (.cells [yieldV r].toArray 162 (0, 0)) :: .blk nb (.cells [.int .i64 (n : Int)].toArray 3 (0, 0)) :: (hp ++ T0)) (fun _ => rfl) f ⟨Nat.le_refl _, Nat.le_max_left _ _, fun v hv => absurd hv (by rw [chsT_self]; exact List.not_mem_nil)⟩ rfl sbn (Pck.refl _) ?_
  rintro i hi
  dsimp only at hi ⊢
  refine cod_seq ?_
  refine cod_seq ?_
  refine cod_region ?_
  refine lst_move rfl rfl ?_
  refine lst_load rfl rfl F.one3 ?_
  refine lst_int rfl rfl rfl bin_lss ?_
  refine lst_nil ?_
  refine ex_then ?_
  refine cod_cond_dec rfl (fun hc1 => ?_) (fun hc1 => ?_)
  · skip
    have hin : i < n := by omega
    have hm8 : maskL pre < 256 := by have := hp0.mask hn; omega
    refine cod_skip ?_
    refine ex_then ?_
    refine cod_seq ?_
    refine cod_block ?_
    refine cod_seq ?_
    refine anyO_begin [.blk fb (.cells [fromV yb nb fb].toArray 163 (0, 0)), .blk yb (.cells [yieldV r].toArray 162 (0, 0)), .blk nb (.cells [.int .i64 (n : Int)].toArray 3 (0, 0))] F.follows 11 rfl [false, false, false, false, false, false, false, false, false, false, false] rfl ?_
    refine anyO_take 0 rfl rfl rfl (by kernel_rfl) (by kernel_rfl) (by kernel_rfl) sbl (fun _ => yld_load rfl F.one163) rfl ?_
    refine anyO_take 1 rfl rfl rfl (by kernel_rfl) (by kernel_rfl) (by kernel_rfl) sbl (fun _ => yld_move rfl) rfl ?_
    refine anyO_take 2 rfl rfl rfl (by kernel_rfl) (by kernel_rfl) (by kernel_rfl) sbl (fun _ => yld_move rfl) rfl ?_
    refine anyO_take 3 rfl rfl rfl (by kernel_rfl) (by kernel_rfl) (by kernel_rfl) sbl (fun _ => yld_shl rfl rfl (by omega) (shl_u8 (by omega))) rfl ?_
    refine anyO_take 4 rfl rfl rfl (by kernel_rfl) (by kernel_rfl) (by kernel_rfl) sbl (fun _ => yld_int rfl rfl (fun w => bin_or w (r := ((maskL (pre ++ [i]) : Nat) : Int)) (by rw [maskL_snoc]; exact u8_or _ _ hm8 (shl8_lt (by omega))))) rfl ?_
    refine anyO_take 5 rfl rfl rfl (by kernel_rfl) (by kernel_rfl) (by kernel_rfl) sbl (fun _ => yld_move rfl) rfl ?_
    refine anyO_take 6 rfl rfl rfl (by kernel_rfl) (by kernel_rfl) (by kernel_rfl) sbl (fun _ => yld_int rfl rfl (fun w => bin_add w (wrap_i64' _ (by omega) (by omega)))) rfl ?_
    refine anyO_take 7 rfl rfl rfl (by kernel_rfl) (by kernel_rfl) (by kernel_rfl) sbl (fun _ => yld_move rfl) rfl ?_
    refine anyO_take 8 rfl rfl rfl (by kernel_rfl) (by kernel_rfl) (by kernel_rfl) sbl (fun _ => yld_int rfl rfl (fun w => bin_sub w (show IntKind.i64.wrap (((k + 1 : Nat) : Int) - 1) = ((k : Nat) : Int) from by rw [wrap_i64' _ (by omega) (by omega)]; omega))) rfl ?_
    refine anyO_one 9 (by kernel_rfl) rfl rfl ?_
    refine lst_callO (X := Option Y) (first := []) (cap := [_, _, _]) (vs := [_, _, _]) (p := fun o => FromS lst G (pre ++ [i]) (chsL n k (i + 1)) o) (o := fun _ => w0.output) (val := fun o => .bool o.isNone) (rs := fun o => .blk fb (.cells [fromV yb nb fb].toArray 163 (0, 0)) :: .blk yb (.cells [yieldV r].toArray 162 (0, 0)) :: .blk nb (.cells [.int .i64 (n : Int)].toArray 3 (0, 0)) :: (hp ++ TO T0 T1 o)) rfl rfl rfl F.ent126 (fun a w ha => ih (i + 1) (pre ++ [i]) (by omega) (hp0.snoc (by omega) (fun j hj => by have := hpf j hj; omega)) (fun j hj => by rcases List.mem_append.1 hj with h1 | h1; exact Nat.lt_of_lt_of_le (hpf j h1) (by omega); rw [List.mem_singleton.1 h1]; omega) ha) ?_
    rintro o ho
    dsimp only at ho ⊢
    refine lst_nil ?_
    refine anyO_nextO (x := w0.output) sbl ?_
    refine anyO_take 10 rfl rfl rfl (by kernel_rfl) (by kernel_rfl) (by kernel_rfl) sbl (fun _ => yld_not rfl) rfl ?_
    refine anyO_done (by kernel_rfl) ?_
    refine ex_then ?_
    refine cod_cond_bool rfl (fun hc2 => ?_) (fun hc2 => ?_)
    · skip
      refine cod_seq ?_
      refine cod_region ?_
      refine lst_assign rfl rfl ?_
      refine lst_nil ?_
      refine ex_then ?_
      refine cod_ret ?_
      refine ex_block_ret ?_
      refine ex_then_ret ?_
      refine ex_then_ret ?_
      refine ex_block_ret ?_
      refine ex_then_ret ?_
      obtain ⟨y, rfl⟩ : ∃ y, o = some y := by cases o with | none => cases hc2 | some y => exact ⟨y, rfl⟩
      obtain ⟨rest, hrest⟩ := chs_split (k := k) hi.1 hin
      exact ex_ret rfl (fun a w ha => res_one rfl rfl ha) (fun a w ha => ⟨some y, by rw [hrest]; exact FromS.map hi.2.2 ho rest, rfl, ha0.backO ha⟩)
    · skip
      refine cod_skip ?_
      refine ex_block_normal ?_
      refine ex_then ?_
      refine cod_region ?_
      refine lst_move rfl rfl ?_
      refine lst_int rfl rfl rfl (fun w => bin_add w (wrap_i64' _ (by omega) (by omega))) ?_
      refine lst_assign rfl rfl ?_
      refine lst_nil ?_
      obtain rfl : o = none := by cases o with | none => rfl | some y => cases hc2
      exact ex_roundC (i + 1) rfl ⟨by omega, by have := Nat.le_max_right f n; omega, fun v hv => by
        rw [chsT_succ hi.1] at hv
        rcases List.mem_append.1 hv with h1 | h1
        · exact hi.2.2 v h1
        · obtain ⟨u, hu, rfl⟩ := List.mem_map.1 h1
          rw [show pre ++ i :: u = (pre ++ [i]) ++ u by simp]
          exact ho u hu⟩ (by (try dsimp only); omega) sbn (Pck.refl _)
  · skip
    refine cod_exit ?_
    refine ex_then_exit ?_
    refine ex_then_exit ?_
    refine ex_block_exit ?_
    refine ex_then ?_
    refine cod_seq ?_
    refine cod_region ?_
    refine lst_assign rfl rfl ?_
    refine lst_nil ?_
    refine ex_then ?_
    refine cod_ret ?_
    exact ex_ret rfl (fun a w ha => res_one rfl rfl ha) (fun a w ha => ⟨none, fun v hv => hi.2.2 v (by rw [chsT_end (i := i) (by omega)]; exact hv), rfl, ha0.back ha⟩)

theorem from_c {Y : Type} {lst : Y → List Nat} {G : List Nat → Prop} {T0 : List Res} {T1 : Y → List Res} {B r yb nb fb n : Nat} {w0 : World} (hn : n ≤ 4) (hY : YSpF Tryd.prog B w0 r n G lst T0 T1) : ∀ (k : Nat), k ≤ 5 → ∀ (f : Nat) (pre : List Nat), f ≤ 5 → SetOk n pre → (∀ j ∈ pre, j < f) → ∀ {N : Nat} {ds : List Deferred} {fr : List (Nat × Value)} {hp : List Res} {a : Act} {w : World}, At ⟨Tryd.prog, B, w0, N, ds⟩ fr (.blk fb (.cells [fromV yb nb fb].toArray 163 (0, 0)) :: .blk yb (.cells [yieldV r].toArray 162 (0, 0)) :: .blk nb (.cells [.int .i64 (n : Int)].toArray 3 (0, 0)) :: (hp ++ T0)) a w → Calls Tryd.prog 126 #[.int .u8 (maskL pre : Nat), .int .i64 (f : Int), .int .i64 (k : Int), .pointer (some ⟨yb, 0, none⟩), .pointer (some ⟨nb, 0, none⟩), .pointer (some ⟨fb, 0, none⟩)] w (fun e w' => ∃ o : Option Y, FromS lst G pre (chsL n k f) o ∧ e = .returned (.bool o.isNone) ∧ At ⟨Tryd.prog, B, w0, N, ds⟩ fr (.blk fb (.cells [fromV yb nb fb].toArray 163 (0, 0)) :: .blk yb (.cells [yieldV r].toArray 162 (0, 0)) :: .blk nb (.cells [.int .i64 (n : Int)].toArray 3 (0, 0)) :: (hp ++ TO T0 T1 o)) a w')
  | 0, _, f, pre, _, hp, _, _, _, _, _, _, _, ha => from_0 pre f hY hp ha
  | k + 1, hk, f, pre, hf, hp, hpf, _, _, _, _, _, _, ha => from_s pre f k hn hY hf hk hp hpf (from_c hn hY k (by omega)) ha
theorem it_c {Y : Type} {lst : Y → List Nat} {G : List Nat → Prop} {T0 : List Res} {T1 : Y → List Res} {B r nb n : Nat} {w0 : World} (hn : n ≤ 4) (hY : YSpF Tryd.prog B w0 r n G lst T0 T1) {N : Nat} {ds : List Deferred} {fr : List (Nat × Value)} {hp : List Res} {a : Act} {w : World} (ha0 : At ⟨Tryd.prog, B, w0, N, ds⟩ fr (.blk nb (.cells [.int .i64 (n : Int)].toArray 3 (0, 0)) :: (hp ++ T0)) a w) : Calls Tryd.prog 125 #[yieldV r, .pointer (some ⟨nb, 0, none⟩)] w fun e w' => (∃ v, e = .returned v) ∧ ∃ o : Option Y, (match o with | none => ∀ k, k ≤ n → ∀ v ∈ chsL n k 0, ¬ G v | some y => FewS n G (lst y) ∧ SetOk n (lst y)) ∧ At ⟨Tryd.prog, B, w0, N, ds⟩ fr (.blk nb (.cells [.int .i64 (n : Int)].toArray 3 (0, 0)) :: (hp ++ TO T0 T1 o)) a w' := by
  refine enter_in (N := 16) [(0, yieldV r), (1, .pointer (some ⟨nb, 0, none⟩))] ha0 Tryd.func125 rfl Tryd.ntmps125 rfl rfl ?_
  refine cod_seq ?_
  refine cod_region ?_
  refine lst_box rfl rfl ?_
  intro b2
  refine lst_nil ?_
  refine ex_then ?_
  refine cod_seq ?_
  refine cod_region ?_
  refine lst_alloc rfl F.ti163 ?_
  intro b3
  refine lst_nil ?_
  refine ex_then ?_
  refine cod_seq ?_
  refine cod_region ?_
  refine lst_makeFunc (fs := []) (cs := [_, _, _]) rfl rfl rfl ?_
  refine lst_store rfl rfl F.ti163 rfl ?_
  refine lst_nil ?_
  refine ex_then ?_
  refine cod_seq ?_
  refine cod_region ?_
  refine lst_load rfl rfl F.one3 ?_
  refine lst_int rfl rfl rfl (fun w => bin_add w (wrap_i64' _ (by omega) (by omega))) ?_
  refine lst_move rfl rfl ?_
  refine lst_nil ?_
  refine ex_then ?_
  refine cod_block ?_
  refine cod_loop' (G := Nat) (fun k => k ≤ n + 1 ∧ ∀ j, j < k → ∀ v ∈ chsL n j 0, ¬ G v) (fun k => n + 1 - k) (fun k => [(3, .pointer (some ⟨b3, 0, none⟩)), (7, .int .i64 ((n : Int) + 1)), (8, .int .i64 (k : Int))]) (fun _ => .blk b3 (.cells [fromV b2 nb b3].toArray 163 (0, 0)) :: .blk b2 (.cells [yieldV r].toArray 162 (0, 0)) :: .blk nb (.cells [.int .i64 (n : Int)].toArray 3 (0, 0)) :: (hp ++ T0)) 0 ⟨Nat.zero_le _, fun j hj => absurd hj (Nat.not_lt_zero _)⟩ sbn pkk ?_
  rintro k hk
  dsimp only at hk ⊢
  refine cod_seq ?_
  refine cod_region ?_
  refine lst_int rfl rfl rfl bin_lss ?_
  refine lst_nil ?_
  refine ex_then ?_
  refine cod_seq ?_
  refine cod_cond_dec rfl (fun hc0 => ?_) (fun hc0 => ?_)
  · skip
    have hkn : k ≤ n := by omega
    refine cod_skip ?_
    refine ex_then ?_
    refine cod_seq ?_
    refine cod_block ?_
    refine cod_seq ?_
    refine cod_region ?_
    refine lst_move rfl rfl ?_
    refine lst_assign rfl rfl ?_
    refine lst_nil ?_
    refine ex_then ?_
    refine cod_seq ?_
    refine cod_region ?_
    refine lst_load rfl rfl F.one163 ?_
    refine lst_move rfl rfl ?_
    refine lst_call (X := Option Y) (first := []) (cap := [_, _, _]) (vs := [_, _, _]) (p := fun o => FromS lst G [] (chsL n k 0) o) (val := fun o => .bool o.isNone) (rs := fun o => .blk b3 (.cells [fromV b2 nb b3].toArray 163 (0, 0)) :: .blk b2 (.cells [yieldV r].toArray 162 (0, 0)) :: .blk nb (.cells [.int .i64 (n : Int)].toArray 3 (0, 0)) :: (hp ++ TO T0 T1 o)) rfl rfl rfl F.ent126 (fun a w ha => from_c hn hY k (by omega) 0 [] (by omega) (setOk_nil n) (fun j hj => absurd hj List.not_mem_nil) ha) ?_
    rintro o ho
    dsimp only at ho ⊢
    refine lst_not rfl rfl ?_
    refine lst_nil ?_
    refine ex_then ?_
    refine cod_cond_bool rfl (fun hc1 => ?_) (fun hc1 => ?_)
    · skip
      refine cod_ret ?_
      refine ex_block_ret ?_
      refine ex_then_ret ?_
      refine ex_then_ret ?_
      refine ex_block_ret ?_
      obtain ⟨y, rfl⟩ : ∃ y, o = some y := by cases o with | none => cases hc1 | some y => exact ⟨y, rfl⟩
      obtain ⟨i', v, h1, h2, h3, h4⟩ := ho
      exact ex_ret rfl (fun a w ha => res_none rfl ha) (fun a w ha => ⟨⟨_, rfl⟩, some y, ⟨by rw [h4]; exact ⟨k, i', h1, h2, ⟨fun j u hj hu => hk.2 j hj u hu, h3⟩⟩, by rw [h4]; exact ⟨chs_sorted (List.mem_of_getElem? h1), fun i hi => ((chs_mem (List.mem_of_getElem? h1)).2 i hi).2⟩⟩, (ha0.back ha).pck pkk⟩)
    · skip
      refine cod_skip ?_
      refine ex_block_normal ?_
      refine ex_then ?_
      refine cod_region ?_
      refine lst_int rfl rfl rfl (fun w => bin_add w (wrap_i64' _ (by omega) (by omega))) ?_
      refine lst_move rfl rfl ?_
      refine lst_nil ?_
      obtain rfl : o = none := by cases o with | none => rfl | some y => cases hc1
      refine ex_round' (k + 1) ⟨by omega, fun j hj v hv => by
        rcases Nat.lt_succ_iff_lt_or_eq.1 hj with h1 | rfl
        · exact hk.2 j h1 v hv
        · exact ho v hv⟩ (by (try dsimp only); omega) sbn (Pck.refl _)
  · skip
    refine cod_exit ?_
    refine ex_then_exit ?_
    refine ex_then_exit ?_
    refine ex_block_exit ?_
    exact ex_end rfl (fun a w ha => res_none rfl ha) (fun a w ha => ⟨⟨_, rfl⟩, none, fun j hj => hk.2 j (by omega), (ha0.back ha).pck pkk⟩)

end Go.Proofs.YtofkhehcnfiopaaDoor.N
