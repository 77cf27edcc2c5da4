/- Parts of the walks of the laws on fining, those that FiningNeeds needs: Dist, F38, F39, All2, Puts3, F40, Leave. -/
import Derived.Test.YtofkhehcnfiopaaDoorSFiningNeeds07
import Derived.Test.YtofkhehcnfiopaaDoorProg
import Derived.Conc.LeavingOf
import Derived.Leaving
namespace Go.Proofs.YtofkhehcnfiopaaDoor.N
open Go Go.RowKit Go.Proofs
/-! How many agents the shortest ways have: what rounds that go on in place come to. -/
def farN : Nat := 1048576
variable {ags : List Ag} {used p : Nat}
structure RI (ags : List Ag) (used p r m i : Nat) (L : List Nat) : Prop where
  len : L.length = 64
  le : ∀ f, f < 64 → L.getD f 0 ≤ farN
  snd : ∀ f, f < 64 → L.getD f 0 < farN → ∃ c, Wy ags used p f c (L.getD f 0)
  cmp : ∀ f, f < 64 → ∀ c k, Wy ags used p f c k → (k ≤ r ∨ (k ≤ r + 1 ∧ f < m)) → L.getD f 0 ≤ k
  cur : ∀ j, j < i → j ∈ canTo ags used m ags.length → ∀ c k, Wy ags used p (putN (ags.getD j default) m) c k → k ≤ r → L.getD m 0 ≤ k + 1
/-- What the rounds begin with. -/
def initN (p k : Nat) : List Nat := (List.range 64).map fun f => if f < k then (if nn f p = 0 then 0 else farN) else 0
theorem initN_zero (p : Nat) : initN p 0 = List.replicate 64 0 := by
  unfold initN
  simp only [Nat.not_lt_zero, if_false]
  rfl
theorem initN_len (p k : Nat) : (initN p k).length = 64 := by simp [initN]
theorem initN_far {p k : Nat} (hk : k < 64) (h : ¬ nn k p = 0) : (initN p k).set k farN = initN p (k + 1) := by
  apply List.ext_getElem?
  intro f
  rw [List.getElem?_set]
  by_cases hf : f < 64
  · by_cases e : k = f
    · subst e
      simp [initN, hk, h]
    · have e2 : (f < k + 1) = (f < k) := propext (by omega)
      simp only [if_neg e]
      simp [initN, hf, e2]
  · have e : k ≠ f := by omega
    simp [initN, hf, e]
theorem initN_set0 {p k : Nat} (hk : k < 64) (h : nn k p = 0) : ((initN p k).set k farN).set k 0 = initN p (k + 1) := by
  rw [List.set_set]
  apply List.ext_getElem?
  intro f
  rw [List.getElem?_set]
  by_cases hf : f < 64
  · by_cases e : k = f
    · subst e
      simp [initN, hk, h]
    · have e2 : (f < k + 1) = (f < k) := propext (by omega)
      simp only [if_neg e]
      simp [initN, hf, e2]
  · have e : k ≠ f := by omega
    simp [initN, hf, e]
theorem getN_set {L : List Nat} {f g x : Nat} (hf : f < L.length) : (L.set f x).getD g 0 = if f = g then x else L.getD g 0 := by
  rw [List.getD_eq_getElem?_getD, List.getElem?_set, List.getD_eq_getElem?_getD]
  by_cases e : f = g
  · subst e
    rw [if_pos rfl, if_pos rfl, if_pos hf]; rfl
  · rw [if_neg e, if_neg e]
theorem initN_getD {p f : Nat} (hf : f < 64) : (initN p 64).getD f 0 = if nn f p = 0 then 0 else farN := by
  simp [initN, List.getD_eq_getElem?_getD, hf]
theorem RI.start : RI ags used p 0 0 0 (initN p 64) where
  len := initN_len p 64
  le f hf := by rw [initN_getD hf]; split <;> simp [farN]
  snd f hf h := by
    rw [initN_getD hf] at h ⊢
    by_cases h0 : nn f p = 0
    · rw [if_pos h0]; exact ⟨0, .done h0⟩
    · rw [if_neg h0] at h; exact absurd h (Nat.lt_irrefl _)
  cmp f hf c k h hk := by
    have hk0 : k = 0 := by omega
    subst hk0
    rw [initN_getD hf]
    cases h with
    | done h0 => rw [if_pos h0]; exact Nat.le_refl _
  cur j hj := absurd hj (Nat.not_lt_zero _)
theorem RI.skip {r m i : Nat} {L : List Nat} (h : RI ags used p r m i L) (hi : i ∉ canTo ags used m ags.length) : RI ags used p r m (i + 1) L :=
  { h with
    cur := fun j hj hc => by
      rcases Nat.lt_succ_iff_lt_or_eq.1 hj with h1 | rfl
      · exact h.cur j h1 hc
      · exact absurd hc hi }
theorem RI.put {r m i : Nat} {L : List Nat} (hok : Oks ags) (h : RI ags used p r m i L) (hm : m < 64) (hi : i ∈ canTo ags used m ags.length) :
    RI ags used p r m (i + 1) (L.set m (min (L.getD m 0) (1 + L.getD (putN (ags.getD i default) m) 0))) := by
  have hil := (can_mem.1 hi).1
  have hxo : (ags.getD i default).ok := hok.2 _ (by rw [List.getD_eq_getElem?_getD, List.getElem?_eq_getElem hil]; exact List.getElem_mem hil)
  have hg : putN (ags.getD i default) m < 64 := putN_lt hxo hm
  have hml : m < L.length := by rw [h.len]; exact hm
  have dec : ∀ f, (L.set m (min (L.getD m 0) (1 + L.getD (putN (ags.getD i default) m) 0))).getD f 0 ≤ L.getD f 0 := fun f => by
    rw [getN_set hml]
    by_cases e : m = f
    · subst e; rw [if_pos rfl]; exact Nat.min_le_left _ _
    · rw [if_neg e]; exact Nat.le_refl _
  refine ⟨by rw [List.length_set]; exact h.len, fun f hf => Nat.le_trans (dec f) (h.le f hf), fun f hf hlt => ?_, fun f hf c k hw hk => Nat.le_trans (dec f) (h.cmp f hf c k hw hk), fun j hj hc c k hw hk => ?_⟩
  · rw [getN_set hml] at hlt ⊢
    by_cases e : m = f
    · subst e
      rw [if_pos rfl] at hlt ⊢
      rcases Nat.le_total (L.getD m 0) (1 + L.getD (putN (ags.getD i default) m) 0) with h1 | h1
      · rw [Nat.min_eq_left h1] at hlt ⊢
        exact h.snd m hm hlt
      · rw [Nat.min_eq_right h1] at hlt ⊢
        obtain ⟨c, hc⟩ := h.snd _ hg (by omega)
        rw [Nat.add_comm]
        exact ⟨_, .step hi hc⟩
    · rw [if_neg e] at hlt ⊢
      exact h.snd f hf hlt
  · rcases Nat.lt_succ_iff_lt_or_eq.1 hj with h1 | rfl
    · exact Nat.le_trans (dec m) (h.cur j h1 hc c k hw hk)
    · rw [getN_set hml, if_pos rfl]
      have := h.cmp _ hg c k hw (.inl hk)
      omega
theorem RI.next {r m : Nat} {L : List Nat} (h : RI ags used p r m ags.length L) (hm : m < 64) : RI ags used p r (m + 1) 0 L :=
  { h with
    cmp := fun f hf c k hw hk => by
      by_cases h0 : k ≤ r ∨ (k ≤ r + 1 ∧ f < m)
      · exact h.cmp f hf c k hw h0
      · have hfm : f = m := by omega
        subst hfm
        cases hw with
        | done h1 => exact h.cmp f hf 0 0 (.done h1) (.inl (Nat.zero_le _))
        | step hi hw' => exact h.cur _ (can_mem.1 hi).1 hi _ _ hw' (by omega)
    cur := fun j hj => absurd hj (Nat.not_lt_zero _) }
theorem RI.round {r : Nat} {L : List Nat} (h : RI ags used p r 64 0 L) : RI ags used p (r + 1) 0 0 L :=
  { h with
    cmp := fun f hf c k hw hk => h.cmp f hf c k hw (by omega)
    cur := fun j hj => absurd hj (Nat.not_lt_zero _) }
/-- What the reference's numbers say of each melt. -/
structure Dst (ags : List Ag) (used p : Nat) (L : List Nat) : Prop where
  len : L.length = 64
  far : ∀ f, f < 64 → (L.getD f 0 = farN ↔ ¬ Clr ags used p f)
  way : ∀ f, f < 64 → L.getD f 0 ≠ farN → L.getD f 0 ≤ 63 ∧ (∃ c, Wy ags used p f c (L.getD f 0)) ∧ ∀ c k, Wy ags used p f c k → L.getD f 0 ≤ k
theorem RI.dst {L : List Nat} (hok : Oks ags) (h : RI ags used p 64 0 0 L) : Dst ags used p L := by
  have short : ∀ f, f < 64 → Clr ags used p f → L.getD f 0 ≤ 63 ∧ ∀ c k, Wy ags used p f c k → L.getD f 0 ≤ k := fun f hf ⟨c, k, hw⟩ => by
    obtain ⟨c', k', ho⟩ := Opt.ex hw
    have h63 := Opt.short hok hf ho
    have h1 := h.cmp f hf _ _ ho.1 (.inl (by omega))
    refine ⟨by omega, fun c2 k2 hw2 => ?_⟩
    by_cases h2 : k2 ≤ 64
    · exact h.cmp f hf c2 k2 hw2 (.inl h2)
    · omega
  have far_ : ∀ f, f < 64 → (L.getD f 0 = farN ↔ ¬ Clr ags used p f) := fun f hf => by
    constructor
    · intro e hc
      have := (short f hf hc).1
      rw [e] at this
      simp [farN] at this
    · intro hc
      have h1 := h.le f hf
      by_cases e : L.getD f 0 = farN
      · exact e
      · obtain ⟨c, hw⟩ := h.snd f hf (by omega)
        exact absurd ⟨c, _, hw⟩ hc
  refine ⟨h.len, far_, fun f hf hne => ?_⟩
  obtain ⟨c, hw⟩ := h.snd f hf (by have := h.le f hf; omega)
  have := short f hf ⟨c, _, hw⟩
  exact ⟨this.1, ⟨c, hw⟩, this.2⟩
theorem RI.same {r m i f : Nat} {L : List Nat} (h : RI ags used p r m i L) (hf : f < 64) : L.set f (min (L.getD f 0) farN) = L := by
  rw [Nat.min_eq_left (h.le f hf)]
  apply List.ext_getElem?
  intro g
  rw [List.getElem?_set]
  by_cases e : f = g
  · subst e
    have : f < L.length := by rw [h.len]; exact hf
    rw [if_pos rfl, if_pos this, List.getD_eq_getElem?_getD, List.getElem?_eq_getElem this]; rfl
  · rw [if_neg e]
end Go.Proofs.YtofkhehcnfiopaaDoor.N
namespace Go.Proofs.YtofkhehcnfiopaaDoor.N
open Go Go.RowKit Go.Proofs

theorem rPuts_c (A : Option Addr) (c : Nat) (ags : List Ag) (hok : Oks ags) (p : Nat) (hp : p < 64) (used : Nat) (sh : Int) (hU : ∀ i, i < ags.length → (used.testBit i = true ↔ (i : Int) ≠ sh)) (w : World) (hA : RdL Ag.cells 5 w A ags) : Calls Tryd.prog 103 #[.slice A ags.length c, .int .i64 (p : Int), .int .i64 sh] w fun e w' => ∃ (L : List Nat) (b : Nat), Dst ags used p L ∧ e = .returned (.slice (some ⟨b, 0, none⟩) 64 64) ∧ Grew w w' [.row 3 1 (some ⟨b, 0, none⟩) 64 64 (ints L)] := by
  refine enter (N := 83) [(0, .slice A ags.length c), (1, .int .i64 (p : Int)), (2, .int .i64 sh)] Tryd.func103 rfl Tryd.ntmps103 rfl rfl ?_
  refine cod_seq ?_
  refine cod_region ?_
  refine lst_assign rfl rfl ?_
  refine lst_nil ?_
  refine ex_then ?_
  refine cod_seq ?_
  refine cod_region ?_
  refine lst_make_ints (n := 64) rfl rfl rfl Tryd.underlying25 F.ti3 (by omega) ?_
  intro bL
  rw [← initN_zero p]
  refine lst_assign rfl rfl ?_
  refine lst_nil ?_
  refine ex_then ?_
  refine cod_seq ?_
  refine cod_seq ?_
  refine cod_region ?_
  refine lst_assign rfl rfl ?_
  refine lst_nil ?_
  refine ex_then ?_
  refine cod_block ?_
  refine cod_loop (G := Nat) (fun k => k ≤ 64) (fun k => 64 - k) (fun k => [(0, .slice A ags.length c), (1, .int .i64 (p : Int)), (2, .int .i64 sh), (7, .slice (some ⟨bL, 0, none⟩) 64 64), (8, .int .i64 (k : Int))]) (fun k => [.row 3 1 (some ⟨bL, 0, none⟩) 64 64 (ints (initN p k))]) 0 (Nat.zero_le _) (by repeat (first | exact Sub.nil _ | refine Sub.cons rfl ?_)) (by repeat (first | exact List.Sublist.refl _ | exact List.nil_sublist _ | refine List.Sublist.cons_cons _ ?_ | refine List.Sublist.cons _ ?_)) ?_
  intro k hk
  (try dsimp only at hk ⊢)
  refine cod_seq ?_
  refine cod_seq ?_
  refine cod_region ?_
  refine lst_move rfl rfl ?_
  refine lst_int rfl rfl rfl bin_leq ?_
  refine lst_nil ?_
  refine ex_then ?_
  refine cod_cond_dec rfl (fun hc0 => ?_) (fun hc0 => ?_)
  · skip
    have hk6 : k < 64 := by omega
    refine cod_skip ?_
    refine ex_then ?_
    refine cod_seq ?_
    refine cod_block ?_
    refine cod_seq ?_
    refine cod_region ?_
    refine lst_move rfl rfl ?_
    refine lst_move rfl rfl ?_
    refine lst_index (j := k) rfl rfl rfl Tryd.underlying25 F.ti3 rfl hk6 ?_
    refine lst_store_row (N := 64) (xs := ints (initN p k)) (out := ints ((initN p k).set k farN)) rfl rfl F.ti3 rfl (by rw [Nat.zero_add, Nat.mul_one]; exact splice_ints (by rw [initN_len]; exact hk6)) (by repeat (first | exact Upd.head _ | apply Upd.tail)) ?_
    refine lst_nil ?_
    refine ex_then ?_
    refine cod_seq ?_
    refine cod_region ?_
    refine lst_move rfl rfl ?_
    refine lst_move rfl rfl ?_
    refine lst_fn0 (vs := [_, _]) rfl rfl F.ent37 (fun a w ha => Clear_c k p hk6 hp w) ?_
    refine lst_nil ?_
    refine ex_then ?_
    refine cod_cond_dec rfl (fun hc1 => ?_) (fun hc1 => ?_)
    · skip
      refine cod_region ?_
      refine lst_move rfl rfl ?_
      refine lst_move rfl rfl ?_
      refine lst_index (j := k) rfl rfl rfl Tryd.underlying25 F.ti3 rfl hk6 ?_
      refine lst_store_row (N := 64) (xs := ints ((initN p k).set k farN)) (out := ints (((initN p k).set k farN).set k 0)) rfl rfl F.ti3 rfl (by rw [Nat.zero_add, Nat.mul_one]; exact splice_ints (by rw [List.length_set, initN_len]; exact hk6)) (by repeat (first | exact Upd.head _ | apply Upd.tail)) ?_
      rw [initN_set0 hk6 hc1]
      refine lst_nil ?_
      refine ex_block_normal ?_
      refine ex_then ?_
      refine cod_region ?_
      refine lst_move rfl rfl ?_
      refine lst_int rfl rfl rfl (fun w => bin_add w (wrap_i64' _ (by omega) (by omega))) ?_
      refine lst_assign rfl rfl ?_
      refine lst_nil ?_
      refine ex_round (k + 1) (by omega) (by (try dsimp only); omega) (by repeat (first | exact Sub.nil _ | refine Sub.cons rfl ?_)) (by repeat (first | exact List.Sublist.refl _ | exact List.nil_sublist _ | refine List.Sublist.cons_cons _ ?_ | refine List.Sublist.cons _ ?_))
    · skip
      rw [initN_far hk6 hc1]
      refine cod_skip ?_
      refine ex_block_normal ?_
      refine ex_then ?_
      refine cod_region ?_
      refine lst_move rfl rfl ?_
      refine lst_int rfl rfl rfl (fun w => bin_add w (wrap_i64' _ (by omega) (by omega))) ?_
      refine lst_assign rfl rfl ?_
      refine lst_nil ?_
      refine ex_round (k + 1) (by omega) (by (try dsimp only); omega) (by repeat (first | exact Sub.nil _ | refine Sub.cons rfl ?_)) (by repeat (first | exact List.Sublist.refl _ | exact List.nil_sublist _ | refine List.Sublist.cons_cons _ ?_ | refine List.Sublist.cons _ ?_))
  · skip
    obtain rfl : k = 64 := by omega
    refine cod_exit ?_
    refine ex_then_exit ?_
    refine ex_then_exit ?_
    refine ex_block_exit ?_
    refine ex_then ?_
    refine cod_seq ?_
    refine cod_seq ?_
    refine cod_region ?_
    refine lst_assign rfl rfl ?_
    refine lst_nil ?_
    refine ex_then ?_
    refine cod_block ?_
    refine cod_loop (G := Nat × List Nat) (fun g => g.1 ≤ 64 ∧ RI ags used p g.1 0 0 g.2) (fun g => 64 - g.1) (fun g => [(0, .slice A ags.length c), (1, .int .i64 (p : Int)), (2, .int .i64 sh), (7, .slice (some ⟨bL, 0, none⟩) 64 64), (9, .int .i64 (g.1 : Int))]) (fun g => [.row 3 1 (some ⟨bL, 0, none⟩) 64 64 (ints (g.2))]) (0, initN p 64) ⟨Nat.zero_le _, RI.start⟩ (by repeat (first | exact Sub.nil _ | refine Sub.cons rfl ?_)) (by repeat (first | exact List.Sublist.refl _ | exact List.nil_sublist _ | refine List.Sublist.cons_cons _ ?_ | refine List.Sublist.cons _ ?_)) ?_
    rintro ⟨r, L⟩ ⟨hr, hI⟩
    (try dsimp only at hr hI ⊢)
    refine cod_seq ?_
    refine cod_seq ?_
    refine cod_region ?_
    refine lst_move rfl rfl ?_
    refine lst_int rfl rfl rfl bin_leq ?_
    refine lst_nil ?_
    refine ex_then ?_
    refine cod_cond_dec rfl (fun hc2 => ?_) (fun hc2 => ?_)
    · skip
      refine cod_skip ?_
      refine ex_then ?_
      refine cod_seq ?_
      refine cod_block ?_
      refine cod_seq ?_
      refine cod_region ?_
      refine lst_assign rfl rfl ?_
      refine lst_nil ?_
      refine ex_then ?_
      refine cod_block ?_
      refine cod_loop (G := Nat × List Nat) (fun g => g.1 ≤ 64 ∧ RI ags used p r g.1 0 g.2) (fun g => 64 - g.1) (fun g => [(0, .slice A ags.length c), (1, .int .i64 (p : Int)), (2, .int .i64 sh), (7, .slice (some ⟨bL, 0, none⟩) 64 64), (9, .int .i64 (r : Int)), (10, .int .i64 (g.1 : Int))]) (fun g => [.row 3 1 (some ⟨bL, 0, none⟩) 64 64 (ints (g.2))]) (0, L) ⟨Nat.zero_le _, hI⟩ (by repeat (first | exact Sub.nil _ | refine Sub.cons rfl ?_)) (by repeat (first | exact List.Sublist.refl _ | exact List.nil_sublist _ | refine List.Sublist.cons_cons _ ?_ | refine List.Sublist.cons _ ?_)) ?_
      rintro ⟨m, L⟩ ⟨hm, hI⟩
      (try dsimp only at hm hI ⊢)
      refine cod_seq ?_
      refine cod_seq ?_
      refine cod_region ?_
      refine lst_move rfl rfl ?_
      refine lst_int rfl rfl rfl bin_leq ?_
      refine lst_nil ?_
      refine ex_then ?_
      refine cod_cond_dec rfl (fun hc3 => ?_) (fun hc3 => ?_)
      · skip
        have hm6 : m < 64 := by omega
        refine cod_skip ?_
        refine ex_then ?_
        refine cod_seq ?_
        refine cod_block ?_
        refine cod_seq ?_
        refine cod_region ?_
        refine lst_assign rfl rfl ?_
        refine lst_nil ?_
        refine ex_then ?_
        refine cod_block ?_
        refine cod_loop (G := Nat × List Nat) (fun g => g.1 ≤ ags.length ∧ RI ags used p r m g.1 g.2) (fun g => ags.length - g.1) (fun g => [(0, .slice A ags.length c), (1, .int .i64 (p : Int)), (2, .int .i64 sh), (7, .slice (some ⟨bL, 0, none⟩) 64 64), (9, .int .i64 (r : Int)), (10, .int .i64 (m : Int)), (11, .int .i64 (g.1 : Int))]) (fun g => [.row 3 1 (some ⟨bL, 0, none⟩) 64 64 (ints (g.2))]) (0, L) ⟨Nat.zero_le _, hI⟩ (by repeat (first | exact Sub.nil _ | refine Sub.cons rfl ?_)) (by repeat (first | exact List.Sublist.refl _ | exact List.nil_sublist _ | refine List.Sublist.cons_cons _ ?_ | refine List.Sublist.cons _ ?_)) ?_
        rintro ⟨i, L⟩ ⟨hi, hI⟩
        (try dsimp only at hi hI ⊢)
        refine cod_seq ?_
        refine cod_seq ?_
        refine cod_region ?_
        refine lst_move rfl rfl ?_
        refine lst_move rfl rfl ?_
        refine lst_len rfl rfl Tryd.underlying22 ?_
        refine lst_int rfl rfl rfl bin_lss ?_
        refine lst_nil ?_
        refine ex_then ?_
        refine cod_cond_dec rfl (fun hc4 => ?_) (fun hc4 => ?_)
        · skip
          have hi0 : i < ags.length := by omega
          have hk' : i < ags.length := by omega
          obtain ⟨b, o, rfl, hb, hcell⟩ := hA (by omega)
          obtain ⟨x, hx⟩ : ∃ x, ags[i]? = some x := ⟨_, List.getElem?_eq_getElem hk'⟩
          have hxo : x.ok := hok.2 x (List.mem_of_getElem? hx)
          have hxd : ags.getD i default = x := by rw [List.getD_eq_getElem?_getD, hx]; rfl
          have h4 := hok.1
          have hlen := hI.len
          have hg6 : putN x m < 64 := putN_lt hxo hm6
          refine cod_skip ?_
          refine ex_then ?_
          refine cod_seq ?_
          refine cod_block ?_
          refine cod_seq ?_
          refine cod_region ?_
          refine lst_cut1 11 51 (.bool (decide ((i : Int) ≠ sh) && mayN x m)) ?_ ?_
          · skip
            refine lst_move rfl rfl ?_
            refine lst_move rfl rfl ?_
            refine lst_int rfl rfl rfl bin_neq ?_
            refine lst_move rfl rfl ?_
            refine lst_split_bool (t := 44) rfl (fun hg44 => ?_) (fun hg44 => ?_)
            · skip
              refine lst_on rfl rfl ?_
              refine lst_move rfl rfl ?_
              refine lst_on rfl rfl ?_
              refine lst_move rfl rfl ?_
              refine lst_on rfl rfl ?_
              refine lst_index (j := i) rfl rfl rfl Tryd.underlying22 F.ti24 rfl hk' ?_
              refine lst_on rfl rfl ?_
              refine lst_loadN_at (l := [.int .i64 (x.needs : Int), .int .i64 (x.no : Int), .int .i64 (x.takes : Int), .int .i64 (x.leaves : Int), .int .i64 (x.cost : Int)]) rfl rfl F.agg24 F.ti24 rfl (fun a w ha j u hu => ha.old (hcell i x hx j u hu) hb) ?_
              refine lst_on rfl rfl ?_
              refine lst_move rfl rfl ?_
              refine lst_on rfl rfl ?_
              refine lst_fn0 (vs := [_, _]) rfl rfl F.ent97 (fun a w ha => rmay_c x m hxo hm6 w) ?_
              refine lst_pick_true rfl rfl rfl ?_
              refine lst_nil ?_
              exact ex_cut (.cons (by simp_all [look]) (by repeat (first | exact Sub.nil _ | refine Sub.cons rfl ?_))) (by repeat (first | exact List.Sublist.refl _ | exact List.nil_sublist _ | refine List.Sublist.cons_cons _ ?_ | refine List.Sublist.cons _ ?_))
            · skip
              refine lst_off rfl rfl rfl ?_
              refine lst_off rfl rfl rfl ?_
              refine lst_off rfl rfl rfl ?_
              refine lst_off rfl rfl rfl ?_
              refine lst_off rfl rfl rfl ?_
              refine lst_off rfl rfl rfl ?_
              refine lst_pick_false rfl rfl rfl ?_
              refine lst_nil ?_
              exact ex_cut (.cons (by simp_all [look]) (by repeat (first | exact Sub.nil _ | refine Sub.cons rfl ?_))) (by repeat (first | exact List.Sublist.refl _ | exact List.nil_sublist _ | refine List.Sublist.cons_cons _ ?_ | refine List.Sublist.cons _ ?_))
          refine lst_nil ?_
          refine ex_then ?_
          refine cod_cond_bool rfl (fun hc5 => ?_) (fun hc5 => ?_)
          · skip
            rw [Bool.and_eq_true, decide_eq_true_eq] at hc5
            have hcan : i ∈ canTo ags used m ags.length := can_mem.2 ⟨hk', (hU i hk').2 hc5.1, by rw [hxd]; exact hc5.2⟩
            obtain ⟨n1, hn1⟩ : ∃ n, L[m]? = some n := ⟨_, List.getElem?_eq_getElem (by omega)⟩
            obtain ⟨n2, hn2⟩ : ∃ n, L[putN x m]? = some n := ⟨_, List.getElem?_eq_getElem (by omega)⟩
            have hd1 : L.getD m 0 = n1 := by rw [List.getD_eq_getElem?_getD, hn1]; rfl
            have hd2 : L.getD (putN x m) 0 = n2 := by rw [List.getD_eq_getElem?_getD, hn2]; rfl
            have hn2f : n2 ≤ farN := by rw [← hd2]; exact hI.le _ hg6
            have hI2 := hI.put hok hm6 hcan
            rw [hxd, hd1, hd2] at hI2
            unfold farN at hn2f
            refine any_begin [.r (some ⟨bL, 0, none⟩)] F.follows 19 rfl [false, false, false, false, false, false, false, false, false, false, false, false, false, false, false, false, false, false, false] rfl ?_
            refine any_take (listed' := [true, false, false, false, false, false, false, false, false, false, false, false, false, false, false, false, false, false, false].toArray) 0 rfl rfl rfl (by kernel_rfl) (by kernel_rfl) (by kernel_rfl) (by repeat (first | exact List.Sublist.refl _ | exact List.nil_sublist _ | refine List.Sublist.cons_cons _ ?_ | refine List.Sublist.cons _ ?_)) (yld_move rfl) rfl ?_
            refine any_take (listed' := [true, true, false, false, false, false, false, false, false, false, false, false, false, false, false, false, false, false, false].toArray) 1 rfl rfl rfl (by kernel_rfl) (by kernel_rfl) (by kernel_rfl) (by repeat (first | exact List.Sublist.refl _ | exact List.nil_sublist _ | refine List.Sublist.cons_cons _ ?_ | refine List.Sublist.cons _ ?_)) (yld_move rfl) rfl ?_
            refine any_take (listed' := [true, true, true, false, false, false, false, false, false, false, false, false, false, false, false, false, false, false, false].toArray) 2 rfl rfl rfl (by kernel_rfl) (by kernel_rfl) (by kernel_rfl) (by repeat (first | exact List.Sublist.refl _ | exact List.nil_sublist _ | refine List.Sublist.cons_cons _ ?_ | refine List.Sublist.cons _ ?_)) (yld_move rfl) rfl ?_
            refine any_take (listed' := [true, true, true, true, false, false, false, false, false, false, false, false, false, false, false, false, false, false, false].toArray) 3 rfl rfl rfl (by kernel_rfl) (by kernel_rfl) (by kernel_rfl) (by repeat (first | exact List.Sublist.refl _ | exact List.nil_sublist _ | refine List.Sublist.cons_cons _ ?_ | refine List.Sublist.cons _ ?_)) (yld_move rfl) rfl ?_
            refine any_take (listed' := [true, true, true, true, true, false, false, false, false, false, false, false, false, false, false, false, false, false, false].toArray) 4 rfl rfl rfl (by kernel_rfl) (by kernel_rfl) (by kernel_rfl) (by repeat (first | exact List.Sublist.refl _ | exact List.nil_sublist _ | refine List.Sublist.cons_cons _ ?_ | refine List.Sublist.cons _ ?_)) (yld_index (j := m) rfl rfl Tryd.underlying25 F.ti3 rfl hm6) rfl ?_
            refine any_take (listed' := [true, true, true, true, true, false, true, false, false, false, false, false, false, false, false, false, false, false, false].toArray) 6 rfl rfl rfl (by kernel_rfl) (by kernel_rfl) (by kernel_rfl) (by repeat (first | exact List.Sublist.refl _ | exact List.nil_sublist _ | refine List.Sublist.cons_cons _ ?_ | refine List.Sublist.cons _ ?_)) (yld_move rfl) rfl ?_
            refine any_take (listed' := [true, true, true, true, true, false, true, true, false, false, false, false, false, false, false, false, false, false, false].toArray) 7 rfl rfl rfl (by kernel_rfl) (by kernel_rfl) (by kernel_rfl) (by repeat (first | exact List.Sublist.refl _ | exact List.nil_sublist _ | refine List.Sublist.cons_cons _ ?_ | refine List.Sublist.cons _ ?_)) (yld_move rfl) rfl ?_
            refine any_take (listed' := [true, true, true, true, true, false, true, true, true, false, false, false, false, false, false, false, false, false, false].toArray) 8 rfl rfl rfl (by kernel_rfl) (by kernel_rfl) (by kernel_rfl) (by repeat (first | exact List.Sublist.refl _ | exact List.nil_sublist _ | refine List.Sublist.cons_cons _ ?_ | refine List.Sublist.cons _ ?_)) (yld_move rfl) rfl ?_
            refine any_take (listed' := [true, true, true, true, true, false, true, true, true, true, false, false, false, false, false, false, false, false, false].toArray) 9 rfl rfl rfl (by kernel_rfl) (by kernel_rfl) (by kernel_rfl) (by repeat (first | exact List.Sublist.refl _ | exact List.nil_sublist _ | refine List.Sublist.cons_cons _ ?_ | refine List.Sublist.cons _ ?_)) (yld_index (j := i) rfl rfl Tryd.underlying22 F.ti24 rfl hk') rfl ?_
            refine any_take (listed' := [true, true, true, true, true, false, true, true, true, true, true, false, false, false, false, false, false, false, false].toArray) 10 rfl rfl rfl (by kernel_rfl) (by kernel_rfl) (by kernel_rfl) (by repeat (first | exact List.Sublist.refl _ | exact List.nil_sublist _ | refine List.Sublist.cons_cons _ ?_ | refine List.Sublist.cons _ ?_)) (yld_loadN_at (l := [.int .i64 (x.needs : Int), .int .i64 (x.no : Int), .int .i64 (x.takes : Int), .int .i64 (x.leaves : Int), .int .i64 (x.cost : Int)]) rfl F.agg24 F.ti24 rfl (fun a w ha j u hu => ha.old (hcell i x hx j u hu) hb)) rfl ?_
            refine any_take (listed' := [true, true, true, true, true, false, true, true, true, true, true, true, false, false, false, false, false, false, false].toArray) 11 rfl rfl rfl (by kernel_rfl) (by kernel_rfl) (by kernel_rfl) (by repeat (first | exact List.Sublist.refl _ | exact List.nil_sublist _ | refine List.Sublist.cons_cons _ ?_ | refine List.Sublist.cons _ ?_)) (yld_move rfl) rfl ?_
            refine any_two (l1 := [true, true, true, true, true, true, true, true, true, true, true, true, false, false, false, false, false, false, false].toArray) (l2 := [true, true, true, true, true, false, true, true, true, true, true, true, true, false, false, false, false, false, false].toArray) 5 12 (by kernel_rfl) rfl rfl rfl rfl ?_ ?_
            · skip
              refine lst_load_at (v := .int .i64 (n1 : Int)) rfl rfl F.one3 (fun a w ha => row_cell ha (InR.mem (A := (some ⟨bL, 0, none⟩))) rfl (by rw [Nat.zero_add]; exact ints_get hn1)) ?_
              refine lst_nil ?_
              refine any_next (by repeat (first | exact List.Sublist.refl _ | exact List.nil_sublist _ | refine List.Sublist.cons_cons _ ?_ | refine List.Sublist.cons _ ?_)) ?_
              refine any_one (listed' := [true, true, true, true, true, true, true, true, true, true, true, true, true, false, false, false, false, false, false].toArray) 12 (by kernel_rfl) rfl rfl ?_
              refine lst_fn0 (vs := [_, _]) rfl rfl F.ent94 (fun a w ha => rafter_c x m hxo hm6 w) ?_
              refine lst_nil ?_
              refine any_next (by repeat (first | exact List.Sublist.refl _ | exact List.nil_sublist _ | refine List.Sublist.cons_cons _ ?_ | refine List.Sublist.cons _ ?_)) ?_
              refine any_take (listed' := [true, true, true, true, true, true, true, true, true, true, true, true, true, true, false, false, false, false, false].toArray) 13 rfl rfl rfl (by kernel_rfl) (by kernel_rfl) (by kernel_rfl) (by repeat (first | exact List.Sublist.refl _ | exact List.nil_sublist _ | refine List.Sublist.cons_cons _ ?_ | refine List.Sublist.cons _ ?_)) (yld_index (j := putN x m) rfl rfl Tryd.underlying25 F.ti3 rfl hg6) rfl ?_
              refine any_one (listed' := [true, true, true, true, true, true, true, true, true, true, true, true, true, true, true, false, false, false, false].toArray) 14 (by kernel_rfl) rfl rfl ?_
              refine lst_load_at (v := .int .i64 (n2 : Int)) rfl rfl F.one3 (fun a w ha => row_cell ha (InR.mem (A := (some ⟨bL, 0, none⟩))) rfl (by rw [Nat.zero_add]; exact ints_get hn2)) ?_
              refine lst_nil ?_
              refine any_next (by repeat (first | exact List.Sublist.refl _ | exact List.nil_sublist _ | refine List.Sublist.cons_cons _ ?_ | refine List.Sublist.cons _ ?_)) ?_
              refine any_take (listed' := [true, true, true, true, true, true, true, true, true, true, true, true, true, true, true, true, false, false, false].toArray) 15 rfl rfl rfl (by kernel_rfl) (by kernel_rfl) (by kernel_rfl) (by repeat (first | exact List.Sublist.refl _ | exact List.nil_sublist _ | refine List.Sublist.cons_cons _ ?_ | refine List.Sublist.cons _ ?_)) (yld_int (v := .int .i64 (1 + (n2 : Int))) rfl rfl (fun w => bin_add w (wrap_i64' _ (by omega) (by omega)))) rfl ?_
              refine any_one (listed' := [true, true, true, true, true, true, true, true, true, true, true, true, true, true, true, true, true, false, false].toArray) 16 (by kernel_rfl) rfl rfl ?_
              refine lst_min rfl rfl rfl ?_
              rw [show (if 1 + (n2 : Int) < ((n1 : Nat) : Int) then 1 + (n2 : Int) else ((n1 : Nat) : Int)) = ((min n1 (1 + n2) : Nat) : Int) from by rw [Nat.min_def]; split <;> split <;> omega]
              refine lst_nil ?_
              refine any_next (by repeat (first | exact List.Sublist.refl _ | exact List.nil_sublist _ | refine List.Sublist.cons_cons _ ?_ | refine List.Sublist.cons _ ?_)) ?_
              refine any_take (listed' := [true, true, true, true, true, true, true, true, true, true, true, true, true, true, true, true, true, true, false].toArray) 17 rfl rfl rfl (by kernel_rfl) (by kernel_rfl) (by kernel_rfl) (by repeat (first | exact List.Sublist.refl _ | exact List.nil_sublist _ | refine List.Sublist.cons_cons _ ?_ | refine List.Sublist.cons _ ?_)) (yld_index (j := m) rfl rfl Tryd.underlying25 F.ti3 rfl hm6) rfl ?_
              refine any_one (listed' := [true, true, true, true, true, true, true, true, true, true, true, true, true, true, true, true, true, true, true].toArray) 18 (by kernel_rfl) rfl rfl ?_
              refine lst_store_row (N := 64) (xs := ints (L)) (out := ints (L.set m (min n1 (1 + n2)))) rfl rfl F.ti3 rfl (by rw [Nat.zero_add, Nat.mul_one]; exact splice_ints (by omega)) (by repeat (first | exact Upd.head _ | apply Upd.tail)) ?_
              refine lst_nil ?_
              refine any_next (by repeat (first | exact List.Sublist.refl _ | exact List.nil_sublist _ | refine List.Sublist.cons_cons _ ?_ | refine List.Sublist.cons _ ?_)) ?_
              refine any_done rfl (by kernel_rfl) ?_
              refine ex_block_normal ?_
              refine ex_then ?_
              refine cod_region ?_
              refine lst_move rfl rfl ?_
              refine lst_int rfl rfl rfl (fun w => bin_add w (wrap_i64' _ (by omega) (by omega))) ?_
              refine lst_assign rfl rfl ?_
              refine lst_nil ?_
              refine ex_round (i + 1, L.set m (min n1 (1 + n2))) ⟨by omega, hI2⟩ (by (try dsimp only); omega) (by repeat (first | exact Sub.nil _ | refine Sub.cons rfl ?_)) (by repeat (first | exact List.Sublist.refl _ | exact List.nil_sublist _ | refine List.Sublist.cons_cons _ ?_ | refine List.Sublist.cons _ ?_))
            · skip
              refine lst_fn0 (vs := [_, _]) rfl rfl F.ent94 (fun a w ha => rafter_c x m hxo hm6 w) ?_
              refine lst_nil ?_
              refine any_next (by repeat (first | exact List.Sublist.refl _ | exact List.nil_sublist _ | refine List.Sublist.cons_cons _ ?_ | refine List.Sublist.cons _ ?_)) ?_
              refine any_take (listed' := [true, true, true, true, true, false, true, true, true, true, true, true, true, true, false, false, false, false, false].toArray) 13 rfl rfl rfl (by kernel_rfl) (by kernel_rfl) (by kernel_rfl) (by repeat (first | exact List.Sublist.refl _ | exact List.nil_sublist _ | refine List.Sublist.cons_cons _ ?_ | refine List.Sublist.cons _ ?_)) (yld_index (j := putN x m) rfl rfl Tryd.underlying25 F.ti3 rfl hg6) rfl ?_
              refine any_two (l1 := [true, true, true, true, true, true, true, true, true, true, true, true, true, true, false, false, false, false, false].toArray) (l2 := [true, true, true, true, true, false, true, true, true, true, true, true, true, true, true, false, false, false, false].toArray) 5 14 (by kernel_rfl) rfl rfl rfl rfl ?_ ?_
              · skip
                refine lst_load_at (v := .int .i64 (n1 : Int)) rfl rfl F.one3 (fun a w ha => row_cell ha (InR.mem (A := (some ⟨bL, 0, none⟩))) rfl (by rw [Nat.zero_add]; exact ints_get hn1)) ?_
                refine lst_nil ?_
                refine any_next (by repeat (first | exact List.Sublist.refl _ | exact List.nil_sublist _ | refine List.Sublist.cons_cons _ ?_ | refine List.Sublist.cons _ ?_)) ?_
                refine any_one (listed' := [true, true, true, true, true, true, true, true, true, true, true, true, true, true, true, false, false, false, false].toArray) 14 (by kernel_rfl) rfl rfl ?_
                refine lst_load_at (v := .int .i64 (n2 : Int)) rfl rfl F.one3 (fun a w ha => row_cell ha (InR.mem (A := (some ⟨bL, 0, none⟩))) rfl (by rw [Nat.zero_add]; exact ints_get hn2)) ?_
                refine lst_nil ?_
                refine any_next (by repeat (first | exact List.Sublist.refl _ | exact List.nil_sublist _ | refine List.Sublist.cons_cons _ ?_ | refine List.Sublist.cons _ ?_)) ?_
                refine any_take (listed' := [true, true, true, true, true, true, true, true, true, true, true, true, true, true, true, true, false, false, false].toArray) 15 rfl rfl rfl (by kernel_rfl) (by kernel_rfl) (by kernel_rfl) (by repeat (first | exact List.Sublist.refl _ | exact List.nil_sublist _ | refine List.Sublist.cons_cons _ ?_ | refine List.Sublist.cons _ ?_)) (yld_int (v := .int .i64 (1 + (n2 : Int))) rfl rfl (fun w => bin_add w (wrap_i64' _ (by omega) (by omega)))) rfl ?_
                refine any_one (listed' := [true, true, true, true, true, true, true, true, true, true, true, true, true, true, true, true, true, false, false].toArray) 16 (by kernel_rfl) rfl rfl ?_
                refine lst_min rfl rfl rfl ?_
                rw [show (if 1 + (n2 : Int) < ((n1 : Nat) : Int) then 1 + (n2 : Int) else ((n1 : Nat) : Int)) = ((min n1 (1 + n2) : Nat) : Int) from by rw [Nat.min_def]; split <;> split <;> omega]
                refine lst_nil ?_
                refine any_next (by repeat (first | exact List.Sublist.refl _ | exact List.nil_sublist _ | refine List.Sublist.cons_cons _ ?_ | refine List.Sublist.cons _ ?_)) ?_
                refine any_take (listed' := [true, true, true, true, true, true, true, true, true, true, true, true, true, true, true, true, true, true, false].toArray) 17 rfl rfl rfl (by kernel_rfl) (by kernel_rfl) (by kernel_rfl) (by repeat (first | exact List.Sublist.refl _ | exact List.nil_sublist _ | refine List.Sublist.cons_cons _ ?_ | refine List.Sublist.cons _ ?_)) (yld_index (j := m) rfl rfl Tryd.underlying25 F.ti3 rfl hm6) rfl ?_
                refine any_one (listed' := [true, true, true, true, true, true, true, true, true, true, true, true, true, true, true, true, true, true, true].toArray) 18 (by kernel_rfl) rfl rfl ?_
                refine lst_store_row (N := 64) (xs := ints (L)) (out := ints (L.set m (min n1 (1 + n2)))) rfl rfl F.ti3 rfl (by rw [Nat.zero_add, Nat.mul_one]; exact splice_ints (by omega)) (by repeat (first | exact Upd.head _ | apply Upd.tail)) ?_
                refine lst_nil ?_
                refine any_next (by repeat (first | exact List.Sublist.refl _ | exact List.nil_sublist _ | refine List.Sublist.cons_cons _ ?_ | refine List.Sublist.cons _ ?_)) ?_
                refine any_done rfl (by kernel_rfl) ?_
                refine ex_block_normal ?_
                refine ex_then ?_
                refine cod_region ?_
                refine lst_move rfl rfl ?_
                refine lst_int rfl rfl rfl (fun w => bin_add w (wrap_i64' _ (by omega) (by omega))) ?_
                refine lst_assign rfl rfl ?_
                refine lst_nil ?_
                refine ex_round (i + 1, L.set m (min n1 (1 + n2))) ⟨by omega, hI2⟩ (by (try dsimp only); omega) (by repeat (first | exact Sub.nil _ | refine Sub.cons rfl ?_)) (by repeat (first | exact List.Sublist.refl _ | exact List.nil_sublist _ | refine List.Sublist.cons_cons _ ?_ | refine List.Sublist.cons _ ?_))
              · skip
                refine lst_load_at (v := .int .i64 (n2 : Int)) rfl rfl F.one3 (fun a w ha => row_cell ha (InR.mem (A := (some ⟨bL, 0, none⟩))) rfl (by rw [Nat.zero_add]; exact ints_get hn2)) ?_
                refine lst_nil ?_
                refine any_next (by repeat (first | exact List.Sublist.refl _ | exact List.nil_sublist _ | refine List.Sublist.cons_cons _ ?_ | refine List.Sublist.cons _ ?_)) ?_
                refine any_take (listed' := [true, true, true, true, true, false, true, true, true, true, true, true, true, true, true, true, false, false, false].toArray) 15 rfl rfl rfl (by kernel_rfl) (by kernel_rfl) (by kernel_rfl) (by repeat (first | exact List.Sublist.refl _ | exact List.nil_sublist _ | refine List.Sublist.cons_cons _ ?_ | refine List.Sublist.cons _ ?_)) (yld_int (v := .int .i64 (1 + (n2 : Int))) rfl rfl (fun w => bin_add w (wrap_i64' _ (by omega) (by omega)))) rfl ?_
                refine any_one (listed' := [true, true, true, true, true, true, true, true, true, true, true, true, true, true, true, true, false, false, false].toArray) 5 (by kernel_rfl) rfl rfl ?_
                refine lst_load_at (v := .int .i64 (n1 : Int)) rfl rfl F.one3 (fun a w ha => row_cell ha (InR.mem (A := (some ⟨bL, 0, none⟩))) rfl (by rw [Nat.zero_add]; exact ints_get hn1)) ?_
                refine lst_nil ?_
                refine any_next (by repeat (first | exact List.Sublist.refl _ | exact List.nil_sublist _ | refine List.Sublist.cons_cons _ ?_ | refine List.Sublist.cons _ ?_)) ?_
                refine any_one (listed' := [true, true, true, true, true, true, true, true, true, true, true, true, true, true, true, true, true, false, false].toArray) 16 (by kernel_rfl) rfl rfl ?_
                refine lst_min rfl rfl rfl ?_
                rw [show (if 1 + (n2 : Int) < ((n1 : Nat) : Int) then 1 + (n2 : Int) else ((n1 : Nat) : Int)) = ((min n1 (1 + n2) : Nat) : Int) from by rw [Nat.min_def]; split <;> split <;> omega]
                refine lst_nil ?_
                refine any_next (by repeat (first | exact List.Sublist.refl _ | exact List.nil_sublist _ | refine List.Sublist.cons_cons _ ?_ | refine List.Sublist.cons _ ?_)) ?_
                refine any_take (listed' := [true, true, true, true, true, true, true, true, true, true, true, true, true, true, true, true, true, true, false].toArray) 17 rfl rfl rfl (by kernel_rfl) (by kernel_rfl) (by kernel_rfl) (by repeat (first | exact List.Sublist.refl _ | exact List.nil_sublist _ | refine List.Sublist.cons_cons _ ?_ | refine List.Sublist.cons _ ?_)) (yld_index (j := m) rfl rfl Tryd.underlying25 F.ti3 rfl hm6) rfl ?_
                refine any_one (listed' := [true, true, true, true, true, true, true, true, true, true, true, true, true, true, true, true, true, true, true].toArray) 18 (by kernel_rfl) rfl rfl ?_
                refine lst_store_row (N := 64) (xs := ints (L)) (out := ints (L.set m (min n1 (1 + n2)))) rfl rfl F.ti3 rfl (by rw [Nat.zero_add, Nat.mul_one]; exact splice_ints (by omega)) (by repeat (first | exact Upd.head _ | apply Upd.tail)) ?_
                refine lst_nil ?_
                refine any_next (by repeat (first | exact List.Sublist.refl _ | exact List.nil_sublist _ | refine List.Sublist.cons_cons _ ?_ | refine List.Sublist.cons _ ?_)) ?_
                refine any_done rfl (by kernel_rfl) ?_
                refine ex_block_normal ?_
                refine ex_then ?_
                refine cod_region ?_
                refine lst_move rfl rfl ?_
                refine lst_int rfl rfl rfl (fun w => bin_add w (wrap_i64' _ (by omega) (by omega))) ?_
                refine lst_assign rfl rfl ?_
                refine lst_nil ?_
                refine ex_round (i + 1, L.set m (min n1 (1 + n2))) ⟨by omega, hI2⟩ (by (try dsimp only); omega) (by repeat (first | exact Sub.nil _ | refine Sub.cons rfl ?_)) (by repeat (first | exact List.Sublist.refl _ | exact List.nil_sublist _ | refine List.Sublist.cons_cons _ ?_ | refine List.Sublist.cons _ ?_))
          · skip
            have hno : i ∉ canTo ags used m ags.length := fun h => by
              have h' := can_mem.1 h
              have h1 := (hU i hk').1 h'.2.1
              have h2 := h'.2.2
              rw [hxd] at h2
              rw [decide_eq_true h1, h2] at hc5
              cases hc5
            have hI2 := hI.skip hno
            refine cod_skip ?_
            refine ex_block_normal ?_
            refine ex_then ?_
            refine cod_region ?_
            refine lst_move rfl rfl ?_
            refine lst_int rfl rfl rfl (fun w => bin_add w (wrap_i64' _ (by omega) (by omega))) ?_
            refine lst_assign rfl rfl ?_
            refine lst_nil ?_
            refine ex_round (i + 1, L) ⟨by omega, hI2⟩ (by (try dsimp only); omega) (by repeat (first | exact Sub.nil _ | refine Sub.cons rfl ?_)) (by repeat (first | exact List.Sublist.refl _ | exact List.nil_sublist _ | refine List.Sublist.cons_cons _ ?_ | refine List.Sublist.cons _ ?_))
        · skip
          obtain rfl : i = ags.length := by omega
          have hI2 := hI.next hm6
          refine cod_exit ?_
          refine ex_then_exit ?_
          refine ex_then_exit ?_
          refine ex_block_exit ?_
          refine ex_block_normal ?_
          refine ex_then ?_
          refine cod_region ?_
          refine lst_move rfl rfl ?_
          refine lst_int rfl rfl rfl (fun w => bin_add w (wrap_i64' _ (by omega) (by omega))) ?_
          refine lst_assign rfl rfl ?_
          refine lst_nil ?_
          refine ex_round (m + 1, L) ⟨by omega, hI2⟩ (by (try dsimp only); omega) (by repeat (first | exact Sub.nil _ | refine Sub.cons rfl ?_)) (by repeat (first | exact List.Sublist.refl _ | exact List.nil_sublist _ | refine List.Sublist.cons_cons _ ?_ | refine List.Sublist.cons _ ?_))
      · skip
        obtain rfl : m = 64 := by omega
        have hI2 := hI.round
        refine cod_exit ?_
        refine ex_then_exit ?_
        refine ex_then_exit ?_
        refine ex_block_exit ?_
        refine ex_block_normal ?_
        refine ex_then ?_
        refine cod_region ?_
        refine lst_move rfl rfl ?_
        refine lst_int rfl rfl rfl (fun w => bin_add w (wrap_i64' _ (by omega) (by omega))) ?_
        refine lst_assign rfl rfl ?_
        refine lst_nil ?_
        refine ex_round (r + 1, L) ⟨by omega, hI2⟩ (by (try dsimp only); omega) (by repeat (first | exact Sub.nil _ | refine Sub.cons rfl ?_)) (by repeat (first | exact List.Sublist.refl _ | exact List.nil_sublist _ | refine List.Sublist.cons_cons _ ?_ | refine List.Sublist.cons _ ?_))
    · skip
      obtain rfl : r = 64 := by omega
      have hlen := hI.len
      refine cod_exit ?_
      refine ex_then_exit ?_
      refine ex_then_exit ?_
      refine ex_block_exit ?_
      refine ex_then ?_
      refine cod_seq ?_
      refine cod_seq ?_
      refine cod_region ?_
      refine lst_assign rfl rfl ?_
      refine lst_nil ?_
      refine ex_then ?_
      refine cod_block ?_
      refine cod_loop (G := Nat) (fun k => k ≤ 64) (fun k => 64 - k) (fun k => [(0, .slice A ags.length c), (1, .int .i64 (p : Int)), (2, .int .i64 sh), (7, .slice (some ⟨bL, 0, none⟩) 64 64), (12, .int .i64 (k : Int))]) (fun k => [.row 3 1 (some ⟨bL, 0, none⟩) 64 64 (ints (L))]) 0 (Nat.zero_le _) (by repeat (first | exact Sub.nil _ | refine Sub.cons rfl ?_)) (by repeat (first | exact List.Sublist.refl _ | exact List.nil_sublist _ | refine List.Sublist.cons_cons _ ?_ | refine List.Sublist.cons _ ?_)) ?_
      intro k hk
      (try dsimp only at hk ⊢)
      refine cod_seq ?_
      refine cod_seq ?_
      refine cod_region ?_
      refine lst_move rfl rfl ?_
      refine lst_int rfl rfl rfl bin_leq ?_
      refine lst_nil ?_
      refine ex_then ?_
      refine cod_cond_dec rfl (fun hc6 => ?_) (fun hc6 => ?_)
      · skip
        have hk6 : k < 64 := by omega
        obtain ⟨n1, hn1⟩ : ∃ n, L[k]? = some n := ⟨_, List.getElem?_eq_getElem (by omega)⟩
        have hd1 : L.getD k 0 = n1 := by rw [List.getD_eq_getElem?_getD, hn1]; rfl
        have hsame := hI.same hk6
        rw [hd1] at hsame
        refine cod_skip ?_
        refine ex_then ?_
        refine cod_seq ?_
        refine cod_block ?_
        refine cod_region ?_
        refine lst_move rfl rfl ?_
        refine lst_move rfl rfl ?_
        refine lst_move rfl rfl ?_
        refine lst_move rfl rfl ?_
        refine lst_index (j := k) rfl rfl rfl Tryd.underlying25 F.ti3 rfl hk6 ?_
        refine lst_load_at (v := .int .i64 (n1 : Int)) rfl rfl F.one3 (fun a w ha => row_cell ha (InR.mem (A := (some ⟨bL, 0, none⟩))) rfl (by rw [Nat.zero_add]; exact ints_get hn1)) ?_
        refine lst_min rfl rfl rfl ?_
        rw [show (if (1048576 : Int) < ((n1 : Nat) : Int) then (1048576 : Int) else ((n1 : Nat) : Int)) = ((min n1 farN : Nat) : Int) from by rw [Nat.min_def]; unfold farN; split <;> split <;> omega]
        refine lst_index (j := k) rfl rfl rfl Tryd.underlying25 F.ti3 rfl hk6 ?_
        refine lst_store_row (N := 64) (xs := ints (L)) (out := ints (L.set k (min n1 farN))) rfl rfl F.ti3 rfl (by rw [Nat.zero_add, Nat.mul_one]; exact splice_ints (by omega)) (by repeat (first | exact Upd.head _ | apply Upd.tail)) ?_
        rw [hsame]
        refine lst_nil ?_
        refine ex_block_normal ?_
        refine ex_then ?_
        refine cod_region ?_
        refine lst_move rfl rfl ?_
        refine lst_int rfl rfl rfl (fun w => bin_add w (wrap_i64' _ (by omega) (by omega))) ?_
        refine lst_assign rfl rfl ?_
        refine lst_nil ?_
        refine ex_round (k + 1) (by omega) (by (try dsimp only); omega) (by repeat (first | exact Sub.nil _ | refine Sub.cons rfl ?_)) (by repeat (first | exact List.Sublist.refl _ | exact List.nil_sublist _ | refine List.Sublist.cons_cons _ ?_ | refine List.Sublist.cons _ ?_))
      · skip
        refine cod_exit ?_
        refine ex_then_exit ?_
        refine ex_then_exit ?_
        refine ex_block_exit ?_
        refine ex_then ?_
        refine cod_seq ?_
        refine cod_region ?_
        refine lst_move rfl rfl ?_
        refine lst_assign rfl rfl ?_
        refine lst_nil ?_
        refine ex_then ?_
        refine cod_ret ?_
        exact ex_ret rfl (fun a w ha => res_one rfl rfl ha) (fun a w ha => ⟨L, bL, hI.dst hok, rfl, ha.grown (by repeat (first | exact List.Sublist.refl _ | exact List.nil_sublist _ | refine List.Sublist.cons_cons _ ?_ | refine List.Sublist.cons _ ?_))⟩)

end Go.Proofs.YtofkhehcnfiopaaDoor.N
namespace Go.Proofs.YtofkhehcnfiopaaDoor.N
open Go Go.RowKit Go.Proofs
theorem F.ent103 : Enters Tryd.prog 103 := enters_of Tryd.func103 rfl (by kernel_rfl)
theorem rNeeded_ok (A : Option Addr) (c : Nat) (ags : List Ag) (hok : Oks ags) (f p : Nat) (hf : f < 64) (hp : p < 64) (w : World) (hA : RdL Ag.cells 5 w A ags) : Calls Tryd.prog 56 #[.slice A ags.length c, .int .i64 (f : Int), .int .i64 (p : Int)] w fun e w' => ∃ (L : List Nat) (E : Nat) (A' : Option Addr) (c' : Nat), (E = 0 ∧ Clr ags (usedAll ags.length) p f ∧ L = (needL ags p f ags.length) ∨ E = 11 ∧ ¬ Clr ags (usedAll ags.length) p f ∧ L = []) ∧ e = .returned (.tuple #[.slice A' L.length c', .int .i64 (E : Int)]) ∧ Grew w w' [.row 3 1 A' L.length c' (ints L)] := by
  refine enter (N := 44) [(0, .slice A ags.length c), (1, .int .i64 (f : Int)), (2, .int .i64 (p : Int))] Tryd.func56 rfl Tryd.ntmps56 rfl rfl ?_
  refine cod_seq ?_
  refine cod_region ?_
  refine lst_assign rfl rfl ?_
  refine lst_assign rfl rfl ?_
  refine lst_nil ?_
  refine ex_then ?_
  refine cod_seq ?_
  refine cod_seq ?_
  refine cod_region ?_
  refine lst_move rfl rfl ?_
  refine lst_move rfl rfl ?_
  refine lst_move rfl rfl ?_
  refine lst_fn0 (v := .int .i64 0) (vs := [_, _, _]) rfl rfl F.ent86 (fun a w ha => by
    have h := asked_c A c (ags.map Ag.raw) (f : Int) (p : Int) w (hA.raw.later ha.below)
    rw [List.length_map, askedR_ok hok hf (by omega)] at h
    exact h) ?_
  refine lst_assign rfl rfl ?_
  refine lst_nil ?_
  refine ex_then ?_
  refine cod_seq ?_
  refine cod_region ?_
  refine lst_move rfl rfl ?_
  refine lst_int rfl rfl rfl bin_neq ?_
  refine lst_nil ?_
  refine ex_then ?_
  refine cod_cond_false rfl ?_
  refine cod_skip ?_
  refine ex_then ?_
  refine cod_seq ?_
  refine cod_seq ?_
  refine cod_region ?_
  refine lst_move rfl rfl ?_
  refine lst_move rfl rfl ?_
  refine lst_fn (X := List Nat × Nat) (vs := [_, _, _]) (p := fun y => Dst ags (usedAll ags.length) p y.1) (val := fun y => .slice (some ⟨y.2, 0, none⟩) 64 64) (rs := fun y => [.row 3 1 (some ⟨y.2, 0, none⟩) 64 64 (ints y.1)]) rfl rfl F.ent103 (fun a w ha => (rPuts_c A c ags hok p hp (usedAll ags.length) (-1) (fun i hi => by rw [usedAll_bit]; simp [hi]) w (hA.later ha.below)).mono (fun e w' h => by obtain ⟨L, b, h1, h2, h3⟩ := h; exact ⟨(L, b), h1, h2, h3⟩)) ?_
  rintro ⟨L0, bP0⟩ hD0
  dsimp only [List.cons_append, List.nil_append] at hD0 ⊢
  have hll0 := hD0.len
  obtain ⟨n1, hn1⟩ : ∃ n, L0[f]? = some n := ⟨_, List.getElem?_eq_getElem (by omega)⟩
  have hd1 : L0.getD f 0 = n1 := by rw [List.getD_eq_getElem?_getD, hn1]; rfl
  have hfar1 := hD0.far f hf
  rw [hd1] at hfar1
  unfold farN at hfar1
  refine lst_move rfl rfl ?_
  refine lst_index (j := f) rfl rfl rfl Tryd.underlying25 F.ti3 rfl hf ?_
  refine lst_load_at (v := .int .i64 (n1 : Int)) rfl rfl F.one3 (fun a w ha => row_cell ha (InR.mem (A := (some ⟨bP0, 0, none⟩))) rfl (by rw [Nat.zero_add]; exact ints_get hn1)) ?_
  refine lst_int rfl rfl rfl bin_eql ?_
  refine lst_nil ?_
  refine ex_then ?_
  refine cod_cond_dec rfl (fun hc1 => ?_) (fun hc1 => ?_)
  · skip
    refine cod_seq ?_
    refine cod_region ?_
    refine lst_assign rfl rfl ?_
    refine lst_assign rfl rfl ?_
    refine lst_nil ?_
    refine ex_then ?_
    refine cod_ret ?_
    refine ex_then_ret ?_
    exact ex_ret rfl (fun a w ha => res_two rfl rfl rfl ha) (fun a w ha => ⟨[], 11, none, 0, .inr ⟨rfl, hfar1.1 (by omega), rfl⟩, rfl, (ha.add_nil 3 1).grown (by repeat (first | exact List.Sublist.refl _ | exact List.nil_sublist _ | refine List.Sublist.cons_cons _ ?_ | refine List.Sublist.cons _ ?_))⟩)
  · skip
    refine cod_skip ?_
    refine ex_then ?_
    refine cod_seq ?_
    refine cod_region ?_
    refine lst_assign rfl rfl ?_
    refine lst_nil ?_
    refine ex_then ?_
    refine cod_seq ?_
    refine cod_seq ?_
    refine cod_region ?_
    refine lst_assign rfl rfl ?_
    refine lst_nil ?_
    refine ex_then ?_
    refine cod_block ?_
    refine cod_nil 3 1 ?_
    refine cod_loop (G := Nat × Option Addr × Nat) (fun g => g.1 ≤ ags.length) (fun g => ags.length - g.1) (fun g => [(0, .slice A ags.length c), (1, .int .i64 (f : Int)), (2, .int .i64 (p : Int)), (9, .slice g.2.1 (needL ags p f g.1).length g.2.2), (10, .int .i64 (g.1 : Int))]) (fun g => [.row 3 1 g.2.1 (needL ags p f g.1).length g.2.2 (ints (needL ags p f g.1))]) (0, none, 0) (Nat.zero_le _) (by repeat (first | exact Sub.nil _ | refine Sub.cons rfl ?_)) (by repeat (first | exact List.Sublist.refl _ | exact List.nil_sublist _ | refine List.Sublist.cons_cons _ ?_ | refine List.Sublist.cons _ ?_)) ?_
    rintro ⟨k, A1, c1⟩ hk
    (try dsimp only at hk ⊢)
    refine cod_seq ?_
    refine cod_seq ?_
    refine cod_region ?_
    refine lst_move rfl rfl ?_
    refine lst_move rfl rfl ?_
    refine lst_len rfl rfl Tryd.underlying22 ?_
    refine lst_int rfl rfl rfl bin_lss ?_
    refine lst_nil ?_
    refine ex_then ?_
    refine cod_cond_dec rfl (fun hc2 => ?_) (fun hc2 => ?_)
    · skip
      have hk' : k < ags.length := by omega
      have h4 := hok.1
      have hnl : (needL ags p f k).length ≤ k := by unfold needL; exact Nat.le_trans (fltP_len _ _) (by rw [List.length_range]; exact Nat.le_refl _)
      refine cod_skip ?_
      refine ex_then ?_
      refine cod_seq ?_
      refine cod_block ?_
      refine cod_seq ?_
      refine cod_region ?_
      refine lst_move rfl rfl ?_
      refine lst_move rfl rfl ?_
      refine lst_move rfl rfl ?_
      refine lst_fn (X := List Nat × Nat) (vs := [_, _, _]) (p := fun y => Dst ags (butN ags.length k) p y.1) (val := fun y => .slice (some ⟨y.2, 0, none⟩) 64 64) (rs := fun y => [.row 3 1 (some ⟨y.2, 0, none⟩) 64 64 (ints y.1)]) rfl rfl F.ent103 (fun a w ha => (rPuts_c A c ags hok p hp (butN ags.length k) ((k : Int)) (fun i hi => by rw [butN_bit hk']; simp [hi]; omega) w (hA.later ha.below)).mono (fun e w' h => by obtain ⟨L, b, h1, h2, h3⟩ := h; exact ⟨(L, b), h1, h2, h3⟩)) ?_
      rintro ⟨L2, bP2⟩ hD2
      dsimp only [List.cons_append, List.nil_append] at hD2 ⊢
      have hll2 := hD2.len
      obtain ⟨n3, hn3⟩ : ∃ n, L2[f]? = some n := ⟨_, List.getElem?_eq_getElem (by omega)⟩
      have hd3 : L2.getD f 0 = n3 := by rw [List.getD_eq_getElem?_getD, hn3]; rfl
      have hfar3 := hD2.far f hf
      rw [hd3] at hfar3
      unfold farN at hfar3
      refine lst_move rfl rfl ?_
      refine lst_index (j := f) rfl rfl rfl Tryd.underlying25 F.ti3 rfl hf ?_
      refine lst_load_at (v := .int .i64 (n3 : Int)) rfl rfl F.one3 (fun a w ha => row_cell ha (InR.mem (A := (some ⟨bP2, 0, none⟩))) rfl (by rw [Nat.zero_add]; exact ints_get hn3)) ?_
      refine lst_int rfl rfl rfl bin_eql ?_
      refine lst_nil ?_
      refine ex_then ?_
      refine cod_cond_dec rfl (fun hc3 => ?_) (fun hc3 => ?_)
      · skip
        refine cod_region ?_
        refine lst_move rfl rfl ?_
        refine lst_move rfl rfl ?_
        refine lst_lit (vs := [(0, _)]) rfl rfl Tryd.underlying25 F.ti3 rfl rfl rfl ?_
        intro b41
        refine lst_append rfl rfl rfl Tryd.underlying25 F.ti3 rfl rfl rfl (by unfold maxLen; omega) (by omega) ?_
        intro A2 c2
        refine lst_assign rfl rfl ?_
        refine lst_nil ?_
        refine ex_block_normal ?_
        refine ex_then ?_
        refine cod_region ?_
        refine lst_move rfl rfl ?_
        refine lst_int rfl rfl rfl (fun w => bin_add w (wrap_i64' _ (by omega) (by omega))) ?_
        refine lst_assign rfl rfl ?_
        refine lst_nil ?_
        have e : (needL ags p f (k + 1)) = (needL ags p f k) ++ [k] := by unfold needL; rw [List.range_succ]; exact fltP_yes (hfar3.1 (by omega))
        refine ex_round (k + 1, A2, c2) (by (try dsimp only); omega) (by (try dsimp only); omega) (by (try dsimp only); (try rw [e]); simp only [List.length_append, List.length_singleton]; repeat (first | exact Sub.nil _ | refine Sub.cons rfl ?_)) (by (try dsimp only); (try rw [e]); simp only [ints_snoc, List.length_append, List.length_singleton]; repeat (first | exact List.Sublist.refl _ | exact List.nil_sublist _ | refine List.Sublist.cons_cons _ ?_ | refine List.Sublist.cons _ ?_))
      · skip
        refine cod_skip ?_
        refine ex_block_normal ?_
        refine ex_then ?_
        refine cod_region ?_
        refine lst_move rfl rfl ?_
        refine lst_int rfl rfl rfl (fun w => bin_add w (wrap_i64' _ (by omega) (by omega))) ?_
        refine lst_assign rfl rfl ?_
        refine lst_nil ?_
        have e : (needL ags p f (k + 1)) = (needL ags p f k) := by unfold needL; rw [List.range_succ]; exact fltP_no (fun h => hc3 (by have := hfar3.2 h; omega))
        refine ex_round (k + 1, A1, c1) (by (try dsimp only); omega) (by (try dsimp only); omega) (by (try dsimp only); (try rw [e]); repeat (first | exact Sub.nil _ | refine Sub.cons rfl ?_)) (by (try dsimp only); (try rw [e]); repeat (first | exact List.Sublist.refl _ | exact List.nil_sublist _ | refine List.Sublist.cons_cons _ ?_ | refine List.Sublist.cons _ ?_))
    · skip
      refine cod_exit ?_
      refine ex_then_exit ?_
      refine ex_then_exit ?_
      refine ex_block_exit ?_
      refine ex_then ?_
      refine cod_seq ?_
      refine cod_region ?_
      refine lst_move rfl rfl ?_
      refine lst_assign rfl rfl ?_
      refine lst_assign rfl rfl ?_
      refine lst_nil ?_
      refine ex_then ?_
      refine cod_ret ?_
      obtain rfl : k = ags.length := by omega
      exact ex_ret rfl (fun a w ha => res_two rfl rfl rfl ha) (fun a w ha => ⟨_, 0, A1, c1, .inl ⟨rfl, Classical.not_not.1 (fun h => hc1 (by have := hfar1.2 h; omega)), rfl⟩, rfl, ha.grown (by repeat (first | exact List.Sublist.refl _ | exact List.nil_sublist _ | refine List.Sublist.cons_cons _ ?_ | refine List.Sublist.cons _ ?_))⟩)

theorem rSpoils_ok (A : Option Addr) (c : Nat) (ags : List Ag) (hok : Oks ags) (f p : Nat) (hf : f < 64) (hp : p < 64) (w : World) (hA : RdL Ag.cells 5 w A ags) : Calls Tryd.prog 58 #[.slice A ags.length c, .int .i64 (f : Int), .int .i64 (p : Int)] w fun e w' => ∃ (L : List Nat) (E : Nat) (A' : Option Addr) (c' : Nat), (E = 0 ∧ Clr ags (usedAll ags.length) p f ∧ L = (spoilL ags p f (canTo ags (usedAll ags.length) f ags.length)) ∨ E = 11 ∧ ¬ Clr ags (usedAll ags.length) p f ∧ L = []) ∧ e = .returned (.tuple #[.slice A' L.length c', .int .i64 (E : Int)]) ∧ Grew w w' [.row 3 1 A' L.length c' (ints L)] := by
  refine enter (N := 56) [(0, .slice A ags.length c), (1, .int .i64 (f : Int)), (2, .int .i64 (p : Int))] Tryd.func58 rfl Tryd.ntmps58 rfl rfl ?_
  refine cod_seq ?_
  refine cod_region ?_
  refine lst_assign rfl rfl ?_
  refine lst_assign rfl rfl ?_
  refine lst_nil ?_
  refine ex_then ?_
  refine cod_seq ?_
  refine cod_seq ?_
  refine cod_region ?_
  refine lst_move rfl rfl ?_
  refine lst_move rfl rfl ?_
  refine lst_move rfl rfl ?_
  refine lst_fn0 (v := .int .i64 0) (vs := [_, _, _]) rfl rfl F.ent86 (fun a w ha => by
    have h := asked_c A c (ags.map Ag.raw) (f : Int) (p : Int) w (hA.raw.later ha.below)
    rw [List.length_map, askedR_ok hok hf (by omega)] at h
    exact h) ?_
  refine lst_assign rfl rfl ?_
  refine lst_nil ?_
  refine ex_then ?_
  refine cod_seq ?_
  refine cod_region ?_
  refine lst_move rfl rfl ?_
  refine lst_int rfl rfl rfl bin_neq ?_
  refine lst_nil ?_
  refine ex_then ?_
  refine cod_cond_false rfl ?_
  refine cod_skip ?_
  refine ex_then ?_
  refine cod_seq ?_
  refine cod_region ?_
  refine lst_move rfl rfl ?_
  refine lst_move rfl rfl ?_
  refine lst_fn (X := List Nat × Nat) (vs := [_, _, _]) (p := fun y => Dst ags (usedAll ags.length) p y.1) (val := fun y => .slice (some ⟨y.2, 0, none⟩) 64 64) (rs := fun y => [.row 3 1 (some ⟨y.2, 0, none⟩) 64 64 (ints y.1)]) rfl rfl F.ent103 (fun a w ha => (rPuts_c A c ags hok p hp (usedAll ags.length) (-1) (fun i hi => by rw [usedAll_bit]; simp [hi]) w (hA.later ha.below)).mono (fun e w' h => by obtain ⟨L, b, h1, h2, h3⟩ := h; exact ⟨(L, b), h1, h2, h3⟩)) ?_
  rintro ⟨L0, bP0⟩ hD0
  dsimp only [List.cons_append, List.nil_append] at hD0 ⊢
  have hll0 := hD0.len
  obtain ⟨n1, hn1⟩ : ∃ n, L0[f]? = some n := ⟨_, List.getElem?_eq_getElem (by omega)⟩
  have hd1 : L0.getD f 0 = n1 := by rw [List.getD_eq_getElem?_getD, hn1]; rfl
  have hfar1 := hD0.far f hf
  rw [hd1] at hfar1
  unfold farN at hfar1
  refine lst_assign rfl rfl ?_
  refine lst_nil ?_
  refine ex_then ?_
  refine cod_seq ?_
  refine cod_seq ?_
  refine cod_region ?_
  refine lst_move rfl rfl ?_
  refine lst_move rfl rfl ?_
  refine lst_index (j := f) rfl rfl rfl Tryd.underlying25 F.ti3 rfl hf ?_
  refine lst_load_at (v := .int .i64 (n1 : Int)) rfl rfl F.one3 (fun a w ha => row_cell ha (InR.mem (A := (some ⟨bP0, 0, none⟩))) rfl (by rw [Nat.zero_add]; exact ints_get hn1)) ?_
  refine lst_int rfl rfl rfl bin_eql ?_
  refine lst_nil ?_
  refine ex_then ?_
  refine cod_cond_dec rfl (fun hc1 => ?_) (fun hc1 => ?_)
  · skip
    refine cod_seq ?_
    refine cod_region ?_
    refine lst_assign rfl rfl ?_
    refine lst_assign rfl rfl ?_
    refine lst_nil ?_
    refine ex_then ?_
    refine cod_ret ?_
    refine ex_then_ret ?_
    exact ex_ret rfl (fun a w ha => res_two rfl rfl rfl ha) (fun a w ha => ⟨[], 11, none, 0, .inr ⟨rfl, hfar1.1 (by omega), rfl⟩, rfl, (ha.add_nil 3 1).grown (by repeat (first | exact List.Sublist.refl _ | exact List.nil_sublist _ | refine List.Sublist.cons_cons _ ?_ | refine List.Sublist.cons _ ?_))⟩)
  · skip
    refine cod_skip ?_
    refine ex_then ?_
    refine cod_seq ?_
    refine cod_region ?_
    refine lst_assign rfl rfl ?_
    refine lst_nil ?_
    refine ex_then ?_
    refine cod_seq ?_
    refine cod_seq ?_
    refine cod_region ?_
    refine lst_assign rfl rfl ?_
    refine lst_nil ?_
    refine ex_then ?_
    refine cod_block ?_
    refine cod_nil 3 1 ?_
    refine cod_loop (G := Nat × Option Addr × Nat) (fun g => g.1 ≤ ags.length) (fun g => ags.length - g.1) (fun g => [(0, .slice A ags.length c), (1, .int .i64 (f : Int)), (2, .int .i64 (p : Int)), (9, .slice (some ⟨bP0, 0, none⟩) 64 64), (10, .slice g.2.1 (spoilL ags p f (canTo ags (usedAll ags.length) f g.1)).length g.2.2), (11, .int .i64 (g.1 : Int))]) (fun g => [.row 3 1 g.2.1 (spoilL ags p f (canTo ags (usedAll ags.length) f g.1)).length g.2.2 (ints (spoilL ags p f (canTo ags (usedAll ags.length) f g.1))), .row 3 1 (some ⟨bP0, 0, none⟩) 64 64 (ints L0)]) (0, none, 0) (Nat.zero_le _) (by repeat (first | exact Sub.nil _ | refine Sub.cons rfl ?_)) (by repeat (first | exact List.Sublist.refl _ | exact List.nil_sublist _ | refine List.Sublist.cons_cons _ ?_ | refine List.Sublist.cons _ ?_)) ?_
    rintro ⟨k, A1, c1⟩ hk
    (try dsimp only at hk ⊢)
    refine cod_seq ?_
    refine cod_seq ?_
    refine cod_region ?_
    refine lst_move rfl rfl ?_
    refine lst_move rfl rfl ?_
    refine lst_len rfl rfl Tryd.underlying22 ?_
    refine lst_int rfl rfl rfl bin_lss ?_
    refine lst_nil ?_
    refine ex_then ?_
    refine cod_cond_dec rfl (fun hc2 => ?_) (fun hc2 => ?_)
    · skip
      have hk' : k < ags.length := by omega
      obtain ⟨b, o, rfl, hb, hcell⟩ := hA (by omega)
      obtain ⟨x, hx⟩ : ∃ x, ags[k]? = some x := ⟨_, List.getElem?_eq_getElem hk'⟩
      have hxo : x.ok := hok.2 x (List.mem_of_getElem? hx)
      have hxd : ags.getD k default = x := by rw [List.getD_eq_getElem?_getD, hx]; rfl
      have h4 := hok.1
      have hcl := canTo_len ags (usedAll ags.length) f k
      have hsl : (spoilL ags p f (canTo ags (usedAll ags.length) f k)).length ≤ 4 := by unfold spoilL; exact Nat.le_trans (fltP_len _ _) (by omega)
      have hg6 : putN x f < 64 := putN_lt hxo hf
      obtain ⟨n3, hn3⟩ : ∃ n, L0[(putN x f)]? = some n := ⟨_, List.getElem?_eq_getElem (by omega)⟩
      have hd3 : L0.getD (putN x f) 0 = n3 := by rw [List.getD_eq_getElem?_getD, hn3]; rfl
      have hfar3 := hD0.far (putN x f) hg6
      rw [hd3] at hfar3
      unfold farN at hfar3
      refine cod_skip ?_
      refine ex_then ?_
      refine cod_seq ?_
      refine cod_block ?_
      refine cod_seq ?_
      refine cod_region ?_
      refine lst_cut1 18 50 (.bool (mayN x f && decide ((n3 : Int) = 1048576))) ?_ ?_
      · skip
        refine lst_move rfl rfl ?_
        refine lst_move rfl rfl ?_
        refine lst_index (j := k) rfl rfl rfl Tryd.underlying22 F.ti24 rfl hk' ?_
        refine lst_loadN_at (l := [.int .i64 (x.needs : Int), .int .i64 (x.no : Int), .int .i64 (x.takes : Int), .int .i64 (x.leaves : Int), .int .i64 (x.cost : Int)]) rfl rfl F.agg24 F.ti24 rfl (fun a w ha j u hu => ha.old (hcell k x hx j u hu) hb) ?_
        refine lst_move rfl rfl ?_
        refine lst_fn0 (vs := [_, _]) rfl rfl F.ent97 (fun a w ha => rmay_c x f hxo hf w) ?_
        refine lst_move rfl rfl ?_
        refine lst_split_bool (t := 39) rfl (fun hg39 => ?_) (fun hg39 => ?_)
        · skip
          refine lst_on rfl rfl ?_
          refine lst_move rfl rfl ?_
          refine lst_on rfl rfl ?_
          refine lst_move rfl rfl ?_
          refine lst_on rfl rfl ?_
          refine lst_move rfl rfl ?_
          refine lst_on rfl rfl ?_
          refine lst_index (j := k) rfl rfl rfl Tryd.underlying22 F.ti24 rfl hk' ?_
          refine lst_on rfl rfl ?_
          refine lst_loadN_at (l := [.int .i64 (x.needs : Int), .int .i64 (x.no : Int), .int .i64 (x.takes : Int), .int .i64 (x.leaves : Int), .int .i64 (x.cost : Int)]) rfl rfl F.agg24 F.ti24 rfl (fun a w ha j u hu => ha.old (hcell k x hx j u hu) hb) ?_
          refine lst_on rfl rfl ?_
          refine lst_move rfl rfl ?_
          refine lst_on rfl rfl ?_
          refine lst_fn0 (vs := [_, _]) rfl rfl F.ent94 (fun a w ha => rafter_c x f hxo hf w) ?_
          refine lst_on rfl rfl ?_
          refine lst_index (j := putN x f) rfl rfl rfl Tryd.underlying25 F.ti3 rfl hg6 ?_
          refine lst_on rfl rfl ?_
          refine lst_load_at (v := .int .i64 (n3 : Int)) rfl rfl F.one3 (fun a w ha => row_cell ha (InR.mem (A := (some ⟨bP0, 0, none⟩))) rfl (by rw [Nat.zero_add]; exact ints_get hn3)) ?_
          refine lst_on rfl rfl ?_
          refine lst_int rfl rfl rfl bin_eql ?_
          refine lst_pick_true rfl rfl rfl ?_
          refine lst_nil ?_
          exact ex_cut (.cons (by simp_all [look]) (by repeat (first | exact Sub.nil _ | refine Sub.cons rfl ?_))) (by repeat (first | exact List.Sublist.refl _ | exact List.nil_sublist _ | refine List.Sublist.cons_cons _ ?_ | refine List.Sublist.cons _ ?_))
        · skip
          refine lst_off rfl rfl rfl ?_
          refine lst_off rfl rfl rfl ?_
          refine lst_off rfl rfl rfl ?_
          refine lst_off rfl rfl rfl ?_
          refine lst_off rfl rfl rfl ?_
          refine lst_off rfl rfl rfl ?_
          refine lst_off rfl rfl rfl ?_
          refine lst_off rfl rfl rfl ?_
          refine lst_off rfl rfl rfl ?_
          refine lst_off rfl rfl rfl ?_
          refine lst_pick_false rfl rfl rfl ?_
          refine lst_nil ?_
          exact ex_cut (.cons (by simp_all [look]) (by repeat (first | exact Sub.nil _ | refine Sub.cons rfl ?_))) (by repeat (first | exact List.Sublist.refl _ | exact List.nil_sublist _ | refine List.Sublist.cons_cons _ ?_ | refine List.Sublist.cons _ ?_))
      refine lst_nil ?_
      refine ex_then ?_
      refine cod_cond_bool rfl (fun hc3 => ?_) (fun hc3 => ?_)
      · skip
        refine cod_region ?_
        refine lst_move rfl rfl ?_
        refine lst_move rfl rfl ?_
        refine lst_lit (vs := [(0, _)]) rfl rfl Tryd.underlying25 F.ti3 rfl rfl rfl ?_
        intro b53
        refine lst_append rfl rfl rfl Tryd.underlying25 F.ti3 rfl rfl rfl (by unfold maxLen; omega) (by omega) ?_
        intro A2 c2
        refine lst_assign rfl rfl ?_
        refine lst_nil ?_
        refine ex_block_normal ?_
        refine ex_then ?_
        refine cod_region ?_
        refine lst_move rfl rfl ?_
        refine lst_int rfl rfl rfl (fun w => bin_add w (wrap_i64' _ (by omega) (by omega))) ?_
        refine lst_assign rfl rfl ?_
        refine lst_nil ?_
        rw [Bool.and_eq_true, decide_eq_true_eq] at hc3
        have e0 := canTo_succ ags (usedAll ags.length) f k
        rw [hxd, hc3.1, usedAll_bit, decide_eq_true hk', Bool.true_and, if_pos rfl] at e0
        have e : (spoilL ags p f (canTo ags (usedAll ags.length) f (k + 1))) = (spoilL ags p f (canTo ags (usedAll ags.length) f k)) ++ [k] := by rw [e0]; unfold spoilL; exact fltP_yes (by rw [hxd]; exact hfar3.1 (by omega))
        refine ex_round (k + 1, A2, c2) (by (try dsimp only); omega) (by (try dsimp only); omega) (by (try dsimp only); (try rw [e]); simp only [List.length_append, List.length_singleton]; repeat (first | exact Sub.nil _ | refine Sub.cons rfl ?_)) (by (try dsimp only); (try rw [e]); simp only [ints_snoc, List.length_append, List.length_singleton]; repeat (first | exact List.Sublist.refl _ | exact List.nil_sublist _ | refine List.Sublist.cons_cons _ ?_ | refine List.Sublist.cons _ ?_))
      · skip
        refine cod_skip ?_
        refine ex_block_normal ?_
        refine ex_then ?_
        refine cod_region ?_
        refine lst_move rfl rfl ?_
        refine lst_int rfl rfl rfl (fun w => bin_add w (wrap_i64' _ (by omega) (by omega))) ?_
        refine lst_assign rfl rfl ?_
        refine lst_nil ?_
        have e : (spoilL ags p f (canTo ags (usedAll ags.length) f (k + 1))) = (spoilL ags p f (canTo ags (usedAll ags.length) f k)) := by
          have e0 := canTo_succ ags (usedAll ags.length) f k
          rw [hxd, usedAll_bit, decide_eq_true hk', Bool.true_and] at e0
          cases hm : mayN x f with
          | false => rw [e0, hm, if_neg (by simp), List.append_nil]
          | true =>
            rw [hm, Bool.true_and, decide_eq_false_iff_not] at hc3
            rw [e0, hm, if_pos rfl]; unfold spoilL; exact fltP_no (fun h => hc3 (by rw [hxd] at h; have := hfar3.2 h; omega))
        refine ex_round (k + 1, A1, c1) (by (try dsimp only); omega) (by (try dsimp only); omega) (by (try dsimp only); (try rw [e]); repeat (first | exact Sub.nil _ | refine Sub.cons rfl ?_)) (by (try dsimp only); (try rw [e]); repeat (first | exact List.Sublist.refl _ | exact List.nil_sublist _ | refine List.Sublist.cons_cons _ ?_ | refine List.Sublist.cons _ ?_))
    · skip
      refine cod_exit ?_
      refine ex_then_exit ?_
      refine ex_then_exit ?_
      refine ex_block_exit ?_
      refine ex_then ?_
      refine cod_seq ?_
      refine cod_region ?_
      refine lst_move rfl rfl ?_
      refine lst_assign rfl rfl ?_
      refine lst_assign rfl rfl ?_
      refine lst_nil ?_
      refine ex_then ?_
      refine cod_ret ?_
      obtain rfl : k = ags.length := by omega
      exact ex_ret rfl (fun a w ha => res_two rfl rfl rfl ha) (fun a w ha => ⟨_, 0, A1, c1, .inl ⟨rfl, Classical.not_not.1 (fun h => hc1 (by have := hfar1.2 h; omega)), rfl⟩, rfl, ha.grown (by repeat (first | exact List.Sublist.refl _ | exact List.nil_sublist _ | refine List.Sublist.cons_cons _ ?_ | refine List.Sublist.cons _ ?_))⟩)

theorem rNeeded_bad (A : Option Addr) (c : Nat) (l : List RA) (m : Int) (p : Int) (hn : askedR l m p ≠ 0) (w : World) (hA : RdL RA.cells 5 w A l) : Calls Tryd.prog 56 #[.slice A l.length c, .int .i64 m, .int .i64 p] w fun e w' => e = .returned (.tuple #[.slice none 0 0, .int .i64 ((askedR l m p : Nat) : Int)]) ∧ Grew w w' [] := by
  refine enter (N := 44) [(0, .slice A l.length c), (1, .int .i64 m), (2, .int .i64 p)] Tryd.func56 rfl Tryd.ntmps56 rfl rfl ?_
  refine cod_seq ?_
  refine cod_region ?_
  refine lst_assign rfl rfl ?_
  refine lst_assign rfl rfl ?_
  refine lst_nil ?_
  refine ex_then ?_
  refine cod_seq ?_
  refine cod_seq ?_
  refine cod_region ?_
  refine lst_move rfl rfl ?_
  refine lst_move rfl rfl ?_
  refine lst_move rfl rfl ?_
  refine lst_fn0 (vs := [_, _, _]) rfl rfl F.ent86 (fun a w ha => asked_c A c l m p w (hA.later ha.below)) ?_
  refine lst_assign rfl rfl ?_
  refine lst_nil ?_
  refine ex_then ?_
  refine cod_seq ?_
  refine cod_region ?_
  refine lst_move rfl rfl ?_
  refine lst_int rfl rfl rfl bin_neq ?_
  refine lst_nil ?_
  refine ex_then ?_
  refine cod_cond_dec rfl (fun hc0 => ?_) (fun hc0 => ?_)
  · skip
    refine cod_seq ?_
    refine cod_region ?_
    refine lst_move rfl rfl ?_
    refine lst_assign rfl rfl ?_
    refine lst_assign rfl rfl ?_
    refine lst_nil ?_
    refine ex_then ?_
    refine cod_ret ?_
    refine ex_then_ret ?_
    exact ex_ret rfl (fun a w ha => res_two rfl rfl rfl ha) (fun a w ha => ⟨rfl, ha.grown (List.nil_sublist _)⟩)
  · skip
    exact absurd hn (by omega) -- done

theorem rSpoils_bad (A : Option Addr) (c : Nat) (l : List RA) (m : Int) (p : Int) (hn : askedR l m p ≠ 0) (w : World) (hA : RdL RA.cells 5 w A l) : Calls Tryd.prog 58 #[.slice A l.length c, .int .i64 m, .int .i64 p] w fun e w' => e = .returned (.tuple #[.slice none 0 0, .int .i64 ((askedR l m p : Nat) : Int)]) ∧ Grew w w' [] := by
  refine enter (N := 56) [(0, .slice A l.length c), (1, .int .i64 m), (2, .int .i64 p)] Tryd.func58 rfl Tryd.ntmps58 rfl rfl ?_
  refine cod_seq ?_
  refine cod_region ?_
  refine lst_assign rfl rfl ?_
  refine lst_assign rfl rfl ?_
  refine lst_nil ?_
  refine ex_then ?_
  refine cod_seq ?_
  refine cod_seq ?_
  refine cod_region ?_
  refine lst_move rfl rfl ?_
  refine lst_move rfl rfl ?_
  refine lst_move rfl rfl ?_
  refine lst_fn0 (vs := [_, _, _]) rfl rfl F.ent86 (fun a w ha => asked_c A c l m p w (hA.later ha.below)) ?_
  refine lst_assign rfl rfl ?_
  refine lst_nil ?_
  refine ex_then ?_
  refine cod_seq ?_
  refine cod_region ?_
  refine lst_move rfl rfl ?_
  refine lst_int rfl rfl rfl bin_neq ?_
  refine lst_nil ?_
  refine ex_then ?_
  refine cod_cond_dec rfl (fun hc0 => ?_) (fun hc0 => ?_)
  · skip
    refine cod_seq ?_
    refine cod_region ?_
    refine lst_move rfl rfl ?_
    refine lst_assign rfl rfl ?_
    refine lst_assign rfl rfl ?_
    refine lst_nil ?_
    refine ex_then ?_
    refine cod_ret ?_
    refine ex_then_ret ?_
    exact ex_ret rfl (fun a w ha => res_two rfl rfl rfl ha) (fun a w ha => ⟨rfl, ha.grown (List.nil_sublist _)⟩)
  · skip
    exact absurd hn (by omega) -- done

end Go.Proofs.YtofkhehcnfiopaaDoor.N
namespace Go.Proofs.YtofkhehcnfiopaaDoor.N
open Go Go.RowKit Go.Proofs
/-! What is asked of whatever agents, a melt and faults: the program and the reference answer alike. -/
def twoR (R : List Ag → Nat → Nat → List Nat × Nat) (l : List RA) (m p : Int) : List Nat × Nat := if askedR l m p = 0 then R (agsOf l) p.toNat m.toNat else ([], askedR l m p)
theorem twoR_ok {R : List Ag → Nat → Nat → List Nat × Nat} {l : List RA} {f p : Nat} (h : askedR l (f : Int) (p : Int) = 0) : twoR R l (f : Int) (p : Int) = R (agsOf l) p f := by
  unfold twoR
  rw [if_pos h, Int.toNat_natCast, Int.toNat_natCast]
theorem twoR_bad {R : List Ag → Nat → Nat → List Nat × Nat} {l : List RA} {m p : Int} {E : Nat} (h : askedR l m p = E) (hE : E ≠ 0) : twoR R l m p = ([], E) := by
  unfold twoR
  rw [h, if_neg hE]
theorem prog_two {k : FuncId} {A : Option Addr} {c : Nat} (R : List Ag → Nat → Nat → List Nat × Nat)
    (hok : ∀ ags, Oks ags → ∀ f p : Nat, f < 64 → p < 64 → ∀ w, RdL Ag.cells 5 w A ags → Calls Tryd.prog k #[.slice A ags.length c, .int .i64 (f : Int), .int .i64 (p : Int)] w (Says w (R ags p f).1 (R ags p f).2))
    (hbad : ∀ l, checkR l ≠ 0 → ∀ (n0 n1 : Int) w, RdL RA.cells 5 w A l → Calls Tryd.prog k #[.slice A l.length c, .int .i64 n0, .int .i64 n1] w fun e w' => e = .returned (.tuple #[.slice none 0 0, .int .i64 ((checkR l : Nat) : Int)]) ∧ Grew w w' [])
    (hbad0 : ∀ ags, Oks ags → ∀ n0 : Int, inB n0 0 63 = false → ∀ (n1 : Int) w, RdL Ag.cells 5 w A ags → Calls Tryd.prog k #[.slice A ags.length c, .int .i64 n0, .int .i64 n1] w fun e w' => e = .returned (.tuple #[.slice none 0 0, .int .i64 1]) ∧ Grew w w' [])
    (hbad1 : ∀ ags, Oks ags → ∀ n0 : Nat, n0 < 64 → ∀ n1 : Int, inB n1 0 63 = false → ∀ w, RdL Ag.cells 5 w A ags → Calls Tryd.prog k #[.slice A ags.length c, .int .i64 (n0 : Int), .int .i64 n1] w fun e w' => e = .returned (.tuple #[.slice none 0 0, .int .i64 1]) ∧ Grew w w' [])
    (l : List RA) (m p : Int) (w : World) (hA : RdL RA.cells 5 w A l) : Calls Tryd.prog k #[.slice A l.length c, .int .i64 m, .int .i64 p] w (Says w (twoR R l m p).1 (twoR R l m p).2) := by
  by_cases hc : checkR l = 0
  · cases hb : inB m 0 63 with
    | true =>
      obtain ⟨f, rfl, hf⟩ := nat_of_inB hb
      cases hq : inB p 0 63 with
      | true =>
        obtain ⟨q, rfl, hq'⟩ := nat_of_inB hq
        have h0 : askedR l (f : Int) (q : Int) = 0 := by unfold askedR; rw [if_neg (by simpa using hc), if_pos (by rw [hb, hq]; rfl)]
        have h := hok (agsOf l) (checkR_oks hc) f q hf hq' w (hA.ag hc)
        rw [agsOf_len] at h
        rw [twoR_ok h0]
        exact h
      | false =>
        have h1 := askedR_one (m := (f : Int)) (p := p) hc (.inr hq)
        have h := hbad1 (agsOf l) (checkR_oks hc) f hf p hq w (hA.ag hc)
        rw [agsOf_len] at h
        rw [twoR_bad h1 (by decide)]
        exact h.mono fun e w' h => Says.nil h
    | false =>
      have h1 := askedR_one (p := p) hc (.inl hb)
      have h := hbad0 (agsOf l) (checkR_oks hc) m hb p w (hA.ag hc)
      rw [agsOf_len] at h
      rw [twoR_bad h1 (by decide)]
      exact h.mono fun e w' h => Says.nil h
  · have h1 := askedR_check (m := m) (p := p) hc
    rw [twoR_bad h1 hc]
    exact (hbad l hc m p w hA).mono fun e w' h => Says.nil h
theorem ref_two {k : FuncId} {A : Option Addr} {c : Nat} (R : List Ag → Nat → Nat → List Nat × Nat)
    (hok : ∀ ags, Oks ags → ∀ f p : Nat, f < 64 → p < 64 → ∀ w, RdL Ag.cells 5 w A ags → Calls Tryd.prog k #[.slice A ags.length c, .int .i64 (f : Int), .int .i64 (p : Int)] w (Says w (R ags p f).1 (R ags p f).2))
    (hbad : ∀ (l : List RA) (m p : Int), askedR l m p ≠ 0 → ∀ w, RdL RA.cells 5 w A l → Calls Tryd.prog k #[.slice A l.length c, .int .i64 m, .int .i64 p] w fun e w' => e = .returned (.tuple #[.slice none 0 0, .int .i64 ((askedR l m p : Nat) : Int)]) ∧ Grew w w' [])
    (l : List RA) (m p : Int) (w : World) (hA : RdL RA.cells 5 w A l) : Calls Tryd.prog k #[.slice A l.length c, .int .i64 m, .int .i64 p] w (Says w (twoR R l m p).1 (twoR R l m p).2) := by
  by_cases h0 : askedR l m p = 0
  · obtain ⟨hc, hb, hq⟩ := askedR_zero h0
    obtain ⟨f, rfl, hf⟩ := nat_of_inB hb
    obtain ⟨q, rfl, hq'⟩ := nat_of_inB hq
    have h := hok (agsOf l) (checkR_oks hc) f q hf hq' w (hA.ag hc)
    rw [agsOf_len] at h
    rw [twoR_ok h0]
    exact h
  · rw [twoR_bad rfl h0]
    exact (hbad l m p h0 w hA).mono fun e w' h => Says.nil h
open Classical in
noncomputable def needA (ags : List Ag) (p f : Nat) : List Nat × Nat := if Clr ags (usedAll ags.length) p f then (needL ags p f ags.length, 0) else ([], 11)
open Classical in
noncomputable def spoilA (ags : List Ag) (p f : Nat) : List Nat × Nat := if Clr ags (usedAll ags.length) p f then (spoilL ags p f (canTo ags (usedAll ags.length) f ags.length), 0) else ([], 11)
theorem needA_says {ags : List Ag} {p f : Nat} {w w' : World} {e : Ending} (h : ∃ (L : List Nat) (E : Nat) (A' : Option Addr) (c' : Nat), (E = 0 ∧ Clr ags (usedAll ags.length) p f ∧ L = needL ags p f ags.length ∨ E = 11 ∧ ¬ Clr ags (usedAll ags.length) p f ∧ L = []) ∧ e = .returned (.tuple #[.slice A' L.length c', .int .i64 (E : Int)]) ∧ Grew w w' [.row 3 1 A' L.length c' (ints L)]) :
    Says w (needA ags p f).1 (needA ags p f).2 e w' := by
  obtain ⟨L, E, A', c', h1, h2, h3⟩ := h
  unfold needA
  rcases h1 with ⟨rfl, hc, rfl⟩ | ⟨rfl, hc, rfl⟩
  · rw [if_pos hc]; exact ⟨A', c', h2, h3⟩
  · rw [if_neg hc]; exact ⟨A', c', h2, h3⟩
theorem spoilA_says {ags : List Ag} {p f : Nat} {w w' : World} {e : Ending} (h : ∃ (L : List Nat) (E : Nat) (A' : Option Addr) (c' : Nat), (E = 0 ∧ Clr ags (usedAll ags.length) p f ∧ L = spoilL ags p f (canTo ags (usedAll ags.length) f ags.length) ∨ E = 11 ∧ ¬ Clr ags (usedAll ags.length) p f ∧ L = []) ∧ e = .returned (.tuple #[.slice A' L.length c', .int .i64 (E : Int)]) ∧ Grew w w' [.row 3 1 A' L.length c' (ints L)]) :
    Says w (spoilA ags p f).1 (spoilA ags p f).2 e w' := by
  obtain ⟨L, E, A', c', h1, h2, h3⟩ := h
  unfold spoilA
  rcases h1 with ⟨rfl, hc, rfl⟩ | ⟨rfl, hc, rfl⟩
  · rw [if_pos hc]; exact ⟨A', c', h2, h3⟩
  · rw [if_neg hc]; exact ⟨A', c', h2, h3⟩
theorem needA_le (ags : List Ag) (p f : Nat) : (needA ags p f).1.length ≤ ags.length := by
  unfold needA
  split
  · unfold needL; exact Nat.le_trans (fltP_len _ _) (by rw [List.length_range]; exact Nat.le_refl _)
  · exact Nat.zero_le _
theorem spoilA_le (ags : List Ag) (p f : Nat) : (spoilA ags p f).1.length ≤ ags.length := by
  unfold spoilA
  split
  · unfold spoilL; exact Nat.le_trans (fltP_len _ _) (canTo_len _ _ _ _)
  · exact Nat.zero_le _
theorem twoR_le {R : List Ag → Nat → Nat → List Nat × Nat} (hR : ∀ ags p f, (R ags p f).1.length ≤ ags.length) (l : List RA) (m p : Int) : (twoR R l m p).1.length ≤ l.length := by
  unfold twoR
  split
  · exact Nat.le_trans (hR _ _ _) (by rw [agsOf_len]; exact Nat.le_refl _)
  · exact Nat.zero_le _
theorem Needed_all (A : Option Addr) (c : Nat) (l : List RA) (m p : Int) (w : World) (hA : RdL RA.cells 5 w A l) : Calls Tryd.prog 55 #[.slice A l.length c, .int .i64 m, .int .i64 p] w (Says w (twoR needA l m p).1 (twoR needA l m p).2) :=
  prog_two needA (fun ags hok f p hf hp w hA => (Needed_ok A c ags hok f p hf hp w hA).mono fun e w' h => needA_says h) (fun l hn n0 n1 w hA => Needed_bad A c l hn n0 n1 w hA) (fun ags hok n0 h0 n1 w hA => Needed_bad0 A c ags hok n0 h0 n1 w hA) (fun ags hok n0 h0 n1 h1 w hA => Needed_bad1 A c ags hok n0 h0 n1 h1 w hA) l m p w hA
theorem rNeeded_all (A : Option Addr) (c : Nat) (l : List RA) (m p : Int) (w : World) (hA : RdL RA.cells 5 w A l) : Calls Tryd.prog 56 #[.slice A l.length c, .int .i64 m, .int .i64 p] w (Says w (twoR needA l m p).1 (twoR needA l m p).2) :=
  ref_two needA (fun ags hok f p hf hp w hA => (rNeeded_ok A c ags hok f p hf hp w hA).mono fun e w' h => needA_says h) (fun l m p hn w hA => rNeeded_bad A c l m p hn w hA) l m p w hA
theorem Spoils_all (A : Option Addr) (c : Nat) (l : List RA) (m p : Int) (w : World) (hA : RdL RA.cells 5 w A l) : Calls Tryd.prog 57 #[.slice A l.length c, .int .i64 m, .int .i64 p] w (Says w (twoR spoilA l m p).1 (twoR spoilA l m p).2) :=
  prog_two spoilA (fun ags hok f p hf hp w hA => (Spoils_ok A c ags hok f p hf hp w hA).mono fun e w' h => spoilA_says h) (fun l hn n0 n1 w hA => Spoils_bad A c l hn n0 n1 w hA) (fun ags hok n0 h0 n1 w hA => Spoils_bad0 A c ags hok n0 h0 n1 w hA) (fun ags hok n0 h0 n1 h1 w hA => Spoils_bad1 A c ags hok n0 h0 n1 h1 w hA) l m p w hA
theorem rSpoils_all (A : Option Addr) (c : Nat) (l : List RA) (m p : Int) (w : World) (hA : RdL RA.cells 5 w A l) : Calls Tryd.prog 58 #[.slice A l.length c, .int .i64 m, .int .i64 p] w (Says w (twoR spoilA l m p).1 (twoR spoilA l m p).2) :=
  ref_two spoilA (fun ags hok f p hf hp w hA => (rSpoils_ok A c ags hok f p hf hp w hA).mono fun e w' h => spoilA_says h) (fun l m p hn w hA => rSpoils_bad A c l m p hn w hA) l m p w hA
end Go.Proofs.YtofkhehcnfiopaaDoor.N
namespace Go.Proofs.YtofkhehcnfiopaaDoor.N
open Go Go.RowKit Go.Proofs
theorem three_ex {l m n : Int} {k : Nat} (hk : k < 3) : ∃ x, ([.int .i64 l, .int .i64 m, .int .i64 n] : List Value)[k]? = some (.int .i64 x) := by
  rcases (show k = 0 ∨ k = 1 ∨ k = 2 by omega) with rfl | rfl | rfl
  · exact ⟨l, rfl⟩
  · exact ⟨m, rfl⟩
  · exact ⟨n, rfl⟩
end Go.Proofs.YtofkhehcnfiopaaDoor.N
namespace Go.Proofs.YtofkhehcnfiopaaDoor.N
open Go Go.RowKit Go.Proofs
theorem F.ent56 : Enters Tryd.prog 56 := enters_of Tryd.func56 rfl (by kernel_rfl)
theorem F.ent58 : Enters Tryd.prog 58 := enters_of Tryd.func58 rfl (by kernel_rfl)
theorem FiningNeeds_c (A0 : Option Addr) (c0 : Nat) (lag : List RA) (x : RA) (melt pass : Int) (nA : Option Addr) (nc : Nat) (nums : List Int) (hwf : ∀ y ∈ lag, y.wf) (hxw : x.wf) (hn0 : A0 = none → lag = [] ∧ c0 = 0) (w : World) (hA : RdL RA.cells 5 w A0 lag) (hN : RdL icell 1 w nA nums) : Calls Tryd.prog 11 #[.slice A0 lag.length c0, .agg [.int .i64 x.needs, .int .i64 x.no, .int .i64 x.takes, .int .i64 x.leaves, .int .i64 x.cost].toArray, .int .i64 melt, .int .i64 pass, .slice nA nums.length nc] w fun e w' => e = .returned (.bool true) ∧ Grew w w' [] := by
  refine enter (N := 153) [(0, .slice A0 lag.length c0), (1, .agg [.int .i64 x.needs, .int .i64 x.no, .int .i64 x.takes, .int .i64 x.leaves, .int .i64 x.cost].toArray), (2, .int .i64 melt), (3, .int .i64 pass), (4, .slice nA nums.length nc)] Tryd.func11 rfl Tryd.ntmps11 rfl rfl ?_
  refine cod_seq ?_
  refine cod_region ?_
  refine lst_box rfl rfl ?_
  intro b6
  refine lst_assign rfl rfl ?_
  refine lst_nil ?_
  refine ex_then ?_
  refine cod_seq ?_
  refine cod_seq ?_
  refine cod_region ?_
  refine lst_move rfl rfl ?_
  refine lst_len rfl rfl Tryd.underlying22 ?_
  refine lst_int rfl rfl rfl bin_gtr ?_
  refine lst_nil ?_
  refine ex_then ?_
  refine cod_cond_dec rfl (fun hc0 => ?_) (fun hc0 => ?_)
  · skip
    refine cod_seq ?_
    refine cod_region ?_
    refine lst_fn0 (vs := []) rfl rfl F.ent21 (fun a w ha => fined_c w) ?_
    refine lst_assign rfl rfl ?_
    refine lst_nil ?_
    refine ex_then ?_
    refine cod_ret ?_
    refine ex_then_ret ?_
    exact ex_ret rfl (fun a w ha => res_one rfl rfl ha) (fun a w ha => ⟨rfl, ha.grown (List.nil_sublist _)⟩)
  · skip
    have hlag : lag.length ≤ 20 := by omega
    refine cod_skip ?_
    refine ex_then ?_
    refine cod_seq ?_
    refine cod_region ?_
    refine lst_move rfl rfl ?_
    refine lst_fn (X := Nat) (vs := [_]) (p := fun _ => True) (val := fun b => .pointer (some ⟨b, 0, none⟩)) (rs := fun b => [.blk b (hatO nA nums.length nc 0 11400714819323198485)]) rfl rfl F.ent22 (fun a w ha => (NewHat_c nA nums.length nc w).mono (fun e w' h => by obtain ⟨b, h1, h2⟩ := h; exact ⟨b, trivial, h1, h2⟩)) ?_
    intro hb _
    dsimp only [List.cons_append, List.nil_append]
    refine lst_assign rfl rfl ?_
    refine lst_nil ?_
    refine ex_then ?_
    refine cod_seq ?_
    refine cod_region ?_
    refine lst_move rfl rfl ?_
    refine lst_loadN rfl rfl F.agg24 F.ti24 ?_
    refine lst_move rfl rfl ?_
    refine lst_call (X := Nat × Nat × Nat × List Ag × List Ag × Option Addr × Option Addr × Nat × Nat) (first := []) (cap := []) (vs := [_, _, _]) (p := fun y => y.1 ≤ 400 ∧ y.2.1 < 18446744073709551616 ∧ y.2.2.2.1.length ≤ 4 ∧ (∀ z ∈ y.2.2.2.1, z.ok) ∧ y.2.2.2.2.1.length ≤ 3 ∧ ∀ z ∈ y.2.2.2.2.1, z.ok) (val := fun y => .slice (some ⟨y.2.2.1, 0, none⟩) 3 3) (rs := fun y => .blk y.2.2.1 (.cells [.slice A0 lag.length c0, .slice y.2.2.2.2.2.1 y.2.2.2.1.length y.2.2.2.2.2.2.2.1, .slice y.2.2.2.2.2.2.1 (y.2.2.2.2.1.length + 1) y.2.2.2.2.2.2.2.2].toArray 22 (0, 0)) :: .row 24 5 y.2.2.2.2.2.1 y.2.2.2.1.length y.2.2.2.2.2.2.2.1 (y.2.2.2.1.flatMap Ag.cells) :: .row 24 5 y.2.2.2.2.2.2.1 (y.2.2.2.2.1.length + 1) y.2.2.2.2.2.2.2.2 (y.2.2.2.2.1.flatMap Ag.cells ++ [.int .i64 x.needs, .int .i64 x.no, .int .i64 x.takes, .int .i64 x.leaves, .int .i64 x.cost]) :: .blk hb (hatO nA nums.length nc y.1 y.2.1) :: []) rfl rfl rfl F.ent23 (fun a w ha => (several_c (C := ⟨Tryd.prog, _, _, _, _⟩) (T := []) (x := x) rfl rfl hN (tk := 0) (st := 11400714819323198485) (by omega) (by omega) (ha.pck (by repeat (first | exact Pck.nil _ | exact Pck.refl _ | (apply Pck.cons; focus ((repeat (first | exact Rem.here _ | apply Rem.there)); done)) | refine Pck.skip _ ?_)))).mono (fun e w' h => by obtain ⟨t', s', b, l1, l2, A1, A2, c1, c2, g1, g2, g3, g4, g5, g6, g7, g8⟩ := h; exact ⟨(t', s', b, l1, l2, A1, A2, c1, c2), ⟨by (try dsimp only); omega, g2, g3, g4, g5, g6⟩, g7, g8⟩)) ?_
    rintro ⟨t1, s1, bS, l1, l2, A1, A2, c1, c2⟩ ⟨ht1, hs1, hl1, ho1, hl2, ho2⟩
    dsimp only at ht1 hs1 hl1 ho1 hl2 ho2 ⊢
    obtain ⟨q1, hq1⟩ : ∃ q, q = l1.map Ag.raw := ⟨_, rfl⟩
    obtain ⟨q2, hq2⟩ : ∃ q, q = l2.map Ag.raw ++ [x] := ⟨_, rfl⟩
    have e1 : l1.length = q1.length := by rw [hq1, List.length_map]
    have e2 : l2.length + 1 = q2.length := by rw [hq2, List.length_append, List.length_map]; rfl
    have e3 : l1.flatMap Ag.cells = q1.flatMap RA.cells := by rw [hq1, raw_cells]
    have e4 : l2.flatMap Ag.cells ++ [.int .i64 x.needs, .int .i64 x.no, .int .i64 x.takes, .int .i64 x.leaves, .int .i64 x.cost] = q2.flatMap RA.cells := by rw [hq2, List.flatMap_append, raw_cells, List.flatMap_singleton]; rfl
    rw [e1, e2, e3, e4]
    have hw1 : ∀ y ∈ q1, y.wf := fun y hy => by rw [hq1] at hy; obtain ⟨z, hz, rfl⟩ := List.mem_map.1 hy; exact raw_wf (ho1 z hz)
    have hw2 : ∀ y ∈ q2, y.wf := fun y hy => by rw [hq2] at hy; exact (List.mem_append.1 hy).elim (fun h => by obtain ⟨z, hz, rfl⟩ := List.mem_map.1 h; exact raw_wf (ho2 z hz)) (fun h => by simp at h; subst h; exact hxw)
    have hp0 : (fun A c L => Rds RA.cells 5 ⟨Tryd.prog, w.heap.size, w, 0, []⟩ [.row 24 5 A1 q1.length c1 (q1.flatMap RA.cells), .row 24 5 A2 q2.length c2 (q2.flatMap RA.cells)] A L ∧ L.length ≤ 20 ∧ (∀ y ∈ L, y.wf) ∧ (A = none → L = [] ∧ c = 0)) A0 c0 lag := ⟨Rds.old hA rfl, hlag, hwf, hn0⟩
    refine lst_assign rfl rfl ?_
    refine lst_nil ?_
    refine ex_then ?_
    refine cod_seq ?_
    refine cod_seq ?_
    refine cod_region ?_
    refine lst_assign rfl rfl ?_
    refine lst_nil ?_
    refine ex_then ?_
    refine cod_block ?_
    refine cod_loop' (G := Nat × Nat × Nat) (fun g => g.1 ≤ 3 ∧ g.2.1 ≤ 400 + 200 * g.1 ∧ g.2.2 < 18446744073709551616) (fun g => 3 - g.1) (fun g => [(2, .int .i64 melt), (3, .int .i64 pass), (11, .pointer (some ⟨hb, 0, none⟩)), (12, .slice (some ⟨bS, 0, none⟩) 3 3), (13, .int .i64 (g.1 : Int))]) (fun g => .blk hb (hatO nA nums.length nc (g.2.1) (g.2.2)) :: .blk bS (.cells [.slice A0 lag.length c0, .slice A1 q1.length c1, .slice A2 q2.length c2].toArray 22 (0, 0)) :: .row 24 5 A1 q1.length c1 (q1.flatMap RA.cells) :: .row 24 5 A2 q2.length c2 (q2.flatMap RA.cells) :: []) (0, t1, s1) ⟨Nat.zero_le _, ht1, hs1⟩ (by repeat (first | exact Sub.nil _ | refine Sub.cons rfl ?_)) (by repeat (first | exact Pck.nil _ | exact Pck.refl _ | (apply Pck.cons; focus ((repeat (first | exact Rem.here _ | apply Rem.there)); done)) | refine Pck.skip _ ?_)) ?_
    rintro ⟨i, t2, s2⟩ ⟨hi, ht2, hs2⟩
    dsimp only at hi ht2 hs2 ⊢
    refine cod_seq ?_
    refine cod_seq ?_
    refine cod_region ?_
    refine lst_move rfl rfl ?_
    refine lst_move rfl rfl ?_
    refine lst_len rfl rfl Tryd.underlying29 ?_
    refine lst_int rfl rfl rfl bin_lss ?_
    refine lst_nil ?_
    refine ex_then ?_
    refine cod_cond_dec rfl (fun hc1 => ?_) (fun hc1 => ?_)
    · skip
      have hi3 : i < 3 := by omega
      refine cod_know (φ := A1 = none → q1.length = 0 ∧ c1 = 0) (fun a w ha h => row_none ha (InR.mem (A := A1)) h) (fun hn1 => ?_)
      refine cod_know (φ := A2 = none → q2.length = 0 ∧ c2 = 0) (fun a w ha h => row_none ha (InR.mem (A := A2)) h) (fun hn2 => ?_)
      have hp1 : (fun A c L => Rds RA.cells 5 ⟨Tryd.prog, w.heap.size, w, 0, []⟩ [.row 24 5 A1 q1.length c1 (q1.flatMap RA.cells), .row 24 5 A2 q2.length c2 (q2.flatMap RA.cells)] A L ∧ L.length ≤ 20 ∧ (∀ y ∈ L, y.wf) ∧ (A = none → L = [] ∧ c = 0)) A1 c1 q1 := ⟨Rds.row (e := 24) (c := c1) (fun _ => rfl) (by simp), by omega, hw1, fun h => ⟨List.length_eq_zero_iff.1 (hn1 h).1, (hn1 h).2⟩⟩
      have hp2 : (fun A c L => Rds RA.cells 5 ⟨Tryd.prog, w.heap.size, w, 0, []⟩ [.row 24 5 A1 q1.length c1 (q1.flatMap RA.cells), .row 24 5 A2 q2.length c2 (q2.flatMap RA.cells)] A L ∧ L.length ≤ 20 ∧ (∀ y ∈ L, y.wf) ∧ (A = none → L = [] ∧ c = 0)) A2 c2 q2 := ⟨Rds.row (e := 24) (c := c2) (fun _ => rfl) (by simp), by omega, hw2, fun h => ⟨List.length_eq_zero_iff.1 (hn2 h).1, (hn2 h).2⟩⟩
      obtain ⟨A, c, L, hsel, hRd, hL20, hLwf, hLn⟩ := sel_ex (P := (fun A c L => Rds RA.cells 5 ⟨Tryd.prog, w.heap.size, w, 0, []⟩ [.row 24 5 A1 q1.length c1 (q1.flatMap RA.cells), .row 24 5 A2 q2.length c2 (q2.flatMap RA.cells)] A L ∧ L.length ≤ 20 ∧ (∀ y ∈ L, y.wf) ∧ (A = none → L = [] ∧ c = 0))) hp0 hp1 hp2 hi3
      refine cod_skip ?_
      refine ex_then ?_
      refine cod_seq ?_
      refine cod_block ?_
      refine cod_seq ?_
      refine cod_region ?_
      refine lst_move rfl rfl ?_
      refine lst_move rfl rfl ?_
      refine lst_index (j := i) rfl rfl rfl Tryd.underlying29 F.ti22 rfl hi3 ?_
      refine lst_load_at (v := .slice A L.length c) rfl rfl F.one22 (fun a w ha => cell_of_blk (ha.mem_blk (InB.mem (b := bS))) (by rw [Nat.zero_add, Nat.mul_one]; exact hsel)) ?_
      refine lst_fn (X := Option Addr × Nat) (vs := [_]) (p := fun _ => True) (val := fun y => .slice y.1 L.length y.2) (rs := fun y => [.row 24 5 y.1 L.length y.2 (L.flatMap RA.cells)]) rfl rfl F.ent24 (fun a w ha => (DupAgents_c ra_len ra_one A c L (by omega) w hLn (hRd _ _ _ _ _ ha rfl rfl rfl (fun r hr => by simp at hr; rcases hr with h | h <;> subst h <;> simp))).mono (fun e w' h => by obtain ⟨A', c', h1, h2⟩ := h; exact ⟨(A', c'), trivial, h1, h2⟩)) ?_
      rintro ⟨dA, dc⟩ -
      dsimp only [List.cons_append, List.nil_append]
      refine lst_assign rfl rfl ?_
      refine lst_nil ?_
      refine ex_then ?_
      refine cod_seq ?_
      refine cod_region ?_
      refine lst_move rfl rfl ?_
      refine lst_move rfl rfl ?_
      refine lst_call_pul (X := Nat × Nat) (vs := [_, _]) hb (fun y => hatO nA nums.length nc (t2 + 1) (y.1)) (fun y => y.1 < 18446744073709551616 ∧ y.2 ≤ (15 : Int).toNat) (fun y => .int .i64 (y.2 : Int)) rfl rfl F.ent25 (fun a w ha => (To_c (C := ⟨Tryd.prog, _, _, _, _⟩) rfl rfl hN (tk := t2) (st := s2) (n := 15) (by omega) hs2 (by omega) ha).mono (fun e w' h => by obtain ⟨s', x, h1, h2, h3, h4⟩ := h; exact ⟨(s', x), ⟨h1, h2⟩, h3, h4⟩)) ?_
      rintro ⟨s3, n0⟩ ⟨hs3, hn0⟩
      dsimp only at hs3 hn0 ⊢
      have hln0 : n0 ≤ 15 := by omega
      refine lst_move rfl rfl ?_
      refine lst_call_pul (X := Nat × Nat) (vs := [_, _]) hb (fun y => hatO nA nums.length nc ((t2 + 1) + 1) (y.1)) (fun y => y.1 < 18446744073709551616 ∧ y.2 ≤ (7 : Int).toNat) (fun y => .int .i64 (y.2 : Int)) rfl rfl F.ent25 (fun a w ha => (To_c (C := ⟨Tryd.prog, _, _, _, _⟩) rfl rfl hN (tk := (t2 + 1)) (st := s3) (n := 7) (by omega) hs3 (by omega) ha).mono (fun e w' h => by obtain ⟨s', x, h1, h2, h3, h4⟩ := h; exact ⟨(s', x), ⟨h1, h2⟩, h3, h4⟩)) ?_
      rintro ⟨s4, n1⟩ ⟨hs4, hn1⟩
      dsimp only at hs4 hn1 ⊢
      have hln1 : n1 ≤ 7 := by omega
      refine lst_lit (vs := [(0, _), (1, _), (2, _)]) rfl rfl Tryd.underlying25 F.ti3 rfl rfl rfl ?_
      intro b52
      refine lst_move rfl rfl ?_
      refine lst_move rfl rfl ?_
      refine lst_call_pul (X := Nat × Nat) (vs := [_, _]) hb (fun y => hatO nA nums.length nc ((t2 + 1 + 1) + 4 + 4) (y.1)) (fun y => y.1 < 18446744073709551616 ∧ y.2 < 64) (fun y => .int .i64 (y.2 : Int)) rfl rfl F.ent26 (fun a w ha => (PassOf_c (C := ⟨Tryd.prog, _, _, _, _⟩) rfl rfl hN (tk := (t2 + 1 + 1)) (st := s4) (few := 4) (by omega) hs4 (by omega) ha).mono (fun e w' h => by obtain ⟨s', x, h1, h2, h3, h4⟩ := h; exact ⟨(s', x), ⟨h1, h2⟩, h3, h4⟩)) ?_
      rintro ⟨s5, z0⟩ ⟨hs5, hz0⟩
      dsimp only at hs5 hz0 ⊢
      refine lst_move rfl rfl ?_
      refine lst_call_pul (X := Nat × Nat) (vs := [_, _]) hb (fun y => hatO nA nums.length nc ((t2 + 1 + 1 + 4 + 4) + 3 + 3) (y.1)) (fun y => y.1 < 18446744073709551616 ∧ y.2 < 64) (fun y => .int .i64 (y.2 : Int)) rfl rfl F.ent26 (fun a w ha => (PassOf_c (C := ⟨Tryd.prog, _, _, _, _⟩) rfl rfl hN (tk := (t2 + 1 + 1 + 4 + 4)) (st := s5) (few := 3) (by omega) hs5 (by omega) ha).mono (fun e w' h => by obtain ⟨s', x, h1, h2, h3, h4⟩ := h; exact ⟨(s', x), ⟨h1, h2⟩, h3, h4⟩)) ?_
      rintro ⟨s6, z1⟩ ⟨hs6, hz1⟩
      dsimp only at hs6 hz1 ⊢
      refine lst_lit (vs := [(0, _), (1, _), (2, _)]) rfl rfl Tryd.underlying25 F.ti3 rfl rfl rfl ?_
      intro b58
      refine lst_assign rfl rfl ?_
      refine lst_assign rfl rfl ?_
      refine lst_nil ?_
      refine ex_then ?_
      refine cod_seq ?_
      refine cod_region ?_
      refine lst_assign rfl rfl ?_
      refine lst_nil ?_
      refine ex_then ?_
      refine cod_block ?_
      refine cod_loop' (G := Nat) (fun g => g ≤ 3) (fun g => 3 - g) (fun g => [(2, .int .i64 melt), (3, .int .i64 pass), (11, .pointer (some ⟨hb, 0, none⟩)), (12, .slice (some ⟨bS, 0, none⟩) 3 3), (13, .int .i64 (i : Int)), (14, .slice dA L.length dc), (15, .slice (some ⟨b52, 0, none⟩) 3 3), (16, .slice (some ⟨b58, 0, none⟩) 3 3), (17, .int .i64 (g : Int))]) (fun g => .blk b58 (.cells [.int .i64 pass, .int .i64 (z0 : Int), .int .i64 (z1 : Int)].toArray 3 (0, 0)) :: .blk b52 (.cells [.int .i64 melt, .int .i64 (n0 : Int), .int .i64 (n1 : Int)].toArray 3 (0, 0)) :: .row 24 5 dA L.length dc (L.flatMap RA.cells) :: .blk hb (hatO nA nums.length nc ((t2 + 1 + 1 + 4 + 4 + 3 + 3)) (s6)) :: .blk bS (.cells [.slice A0 lag.length c0, .slice A1 q1.length c1, .slice A2 q2.length c2].toArray 22 (0, 0)) :: .row 24 5 A1 q1.length c1 (q1.flatMap RA.cells) :: .row 24 5 A2 q2.length c2 (q2.flatMap RA.cells) :: []) (0) (Nat.zero_le _) (by repeat (first | exact Sub.nil _ | refine Sub.cons rfl ?_)) (by repeat (first | exact Pck.nil _ | exact Pck.refl _ | (apply Pck.cons; focus ((repeat (first | exact Rem.here _ | apply Rem.there)); done)) | refine Pck.skip _ ?_)) ?_
      rintro k hk
      (try dsimp only at hk ⊢)
      refine cod_seq ?_
      refine cod_seq ?_
      refine cod_region ?_
      refine lst_move rfl rfl ?_
      refine lst_move rfl rfl ?_
      refine lst_len rfl rfl Tryd.underlying25 ?_
      refine lst_int rfl rfl rfl bin_lss ?_
      refine lst_nil ?_
      refine ex_then ?_
      refine cod_cond_dec rfl (fun hc2 => ?_) (fun hc2 => ?_)
      · skip
        have hk3 : k < 3 := by omega
        obtain ⟨m, hmk⟩ := three_ex (l := melt) (m := (n0 : Int)) (n := (n1 : Int)) hk3
        obtain ⟨p, hpk⟩ := three_ex (l := pass) (m := (z0 : Int)) (n := (z1 : Int)) hk3
        refine cod_skip ?_
        refine ex_then ?_
        refine cod_seq ?_
        refine cod_block ?_
        refine cod_seq ?_
        refine any_begin [] F.follows 15 rfl [false, false, false, false, false, false, false, false, false, false, false, false, false, false, false] rfl ?_
        refine any_take (listed' := [true, false, false, false, false, false, false, false, false, false, false, false, false, false, false].toArray) 0 rfl rfl rfl (by kernel_rfl) (by kernel_rfl) (by kernel_rfl) (by repeat (first | exact List.Sublist.refl _ | exact List.nil_sublist _ | refine List.Sublist.cons_cons _ ?_ | refine List.Sublist.cons _ ?_)) (yld_move rfl) rfl ?_
        refine any_take (listed' := [true, true, false, false, false, false, false, false, false, false, false, false, false, false, false].toArray) 1 rfl rfl rfl (by kernel_rfl) (by kernel_rfl) (by kernel_rfl) (by repeat (first | exact List.Sublist.refl _ | exact List.nil_sublist _ | refine List.Sublist.cons_cons _ ?_ | refine List.Sublist.cons _ ?_)) (yld_move rfl) rfl ?_
        refine any_take (listed' := [true, true, true, false, false, false, false, false, false, false, false, false, false, false, false].toArray) 2 rfl rfl rfl (by kernel_rfl) (by kernel_rfl) (by kernel_rfl) (by repeat (first | exact List.Sublist.refl _ | exact List.nil_sublist _ | refine List.Sublist.cons_cons _ ?_ | refine List.Sublist.cons _ ?_)) (yld_move rfl) rfl ?_
        refine any_take (listed' := [true, true, true, true, false, false, false, false, false, false, false, false, false, false, false].toArray) 3 rfl rfl rfl (by kernel_rfl) (by kernel_rfl) (by kernel_rfl) (by repeat (first | exact List.Sublist.refl _ | exact List.nil_sublist _ | refine List.Sublist.cons_cons _ ?_ | refine List.Sublist.cons _ ?_)) (yld_index (j := k) rfl rfl Tryd.underlying25 F.ti3 rfl hk3) rfl ?_
        refine any_take (listed' := [true, true, true, true, true, false, false, false, false, false, false, false, false, false, false].toArray) 4 rfl rfl rfl (by kernel_rfl) (by kernel_rfl) (by kernel_rfl) (by repeat (first | exact List.Sublist.refl _ | exact List.nil_sublist _ | refine List.Sublist.cons_cons _ ?_ | refine List.Sublist.cons _ ?_)) (yld_load_at (v := .int .i64 m) rfl F.one3 (fun a w ha => cell_of_blk (ha.mem_blk (InB.mem (b := b52))) (by rw [Nat.zero_add, Nat.mul_one]; exact hmk))) rfl ?_
        refine any_take (listed' := [true, true, true, true, true, true, false, false, false, false, false, false, false, false, false].toArray) 5 rfl rfl rfl (by kernel_rfl) (by kernel_rfl) (by kernel_rfl) (by repeat (first | exact List.Sublist.refl _ | exact List.nil_sublist _ | refine List.Sublist.cons_cons _ ?_ | refine List.Sublist.cons _ ?_)) (yld_move rfl) rfl ?_
        refine any_take (listed' := [true, true, true, true, true, true, true, false, false, false, false, false, false, false, false].toArray) 6 rfl rfl rfl (by kernel_rfl) (by kernel_rfl) (by kernel_rfl) (by repeat (first | exact List.Sublist.refl _ | exact List.nil_sublist _ | refine List.Sublist.cons_cons _ ?_ | refine List.Sublist.cons _ ?_)) (yld_move rfl) rfl ?_
        refine any_take (listed' := [true, true, true, true, true, true, true, true, false, false, false, false, false, false, false].toArray) 7 rfl rfl rfl (by kernel_rfl) (by kernel_rfl) (by kernel_rfl) (by repeat (first | exact List.Sublist.refl _ | exact List.nil_sublist _ | refine List.Sublist.cons_cons _ ?_ | refine List.Sublist.cons _ ?_)) (yld_index (j := k) rfl rfl Tryd.underlying25 F.ti3 rfl hk3) rfl ?_
        refine any_take (listed' := [true, true, true, true, true, true, true, true, true, false, false, false, false, false, false].toArray) 8 rfl rfl rfl (by kernel_rfl) (by kernel_rfl) (by kernel_rfl) (by repeat (first | exact List.Sublist.refl _ | exact List.nil_sublist _ | refine List.Sublist.cons_cons _ ?_ | refine List.Sublist.cons _ ?_)) (yld_load_at (v := .int .i64 p) rfl F.one3 (fun a w ha => cell_of_blk (ha.mem_blk (InB.mem (b := b58))) (by rw [Nat.zero_add, Nat.mul_one]; exact hpk))) rfl ?_
        refine any_one (listed' := [true, true, true, true, true, true, true, true, true, true, false, false, false, false, false].toArray) 9 (by kernel_rfl) rfl rfl ?_
        refine lst_fn (X := Option Addr × Nat) (vs := [_, _, _]) (p := fun _ => True) (val := fun y => .tuple #[.slice y.1 ((twoR needA L m p).1).length y.2, .int .i64 (((twoR needA L m p).2 : Nat) : Int)]) (rs := fun y => [.row 3 1 y.1 ((twoR needA L m p).1).length y.2 (ints ((twoR needA L m p).1))]) rfl rfl F.ent55 (fun a w ha => (Needed_all dA dc L m p w (row_reads ha (cells := RA.cells) (size := 5) (e := 24) (c := dc) (n := L.length) (fun _ => rfl) (InR.mem (A := dA)) rfl)).mono (fun e w' h => by obtain ⟨A', c', h1, h2⟩ := h; exact ⟨(A', c'), trivial, h1, h2⟩)) ?_
        rintro ⟨uA1, uc1⟩ -
        dsimp only [List.cons_append, List.nil_append]
        refine lst_nil ?_
        refine any_next (by repeat (first | exact List.Sublist.refl _ | exact List.nil_sublist _ | refine List.Sublist.cons_cons _ ?_ | refine List.Sublist.cons _ ?_)) ?_
        refine any_take (listed' := [true, true, true, true, true, true, true, true, true, true, true, false, false, false, false].toArray) 10 rfl rfl rfl (by kernel_rfl) (by kernel_rfl) (by kernel_rfl) (by repeat (first | exact List.Sublist.refl _ | exact List.nil_sublist _ | refine List.Sublist.cons_cons _ ?_ | refine List.Sublist.cons _ ?_)) (yld_move rfl) rfl ?_
        refine any_take (listed' := [true, true, true, true, true, true, true, true, true, true, true, true, false, false, false].toArray) 11 rfl rfl rfl (by kernel_rfl) (by kernel_rfl) (by kernel_rfl) (by repeat (first | exact List.Sublist.refl _ | exact List.nil_sublist _ | refine List.Sublist.cons_cons _ ?_ | refine List.Sublist.cons _ ?_)) (yld_extract rfl rfl) rfl ?_
        refine any_take (listed' := [true, true, true, true, true, true, true, true, true, true, true, true, true, false, false].toArray) 12 rfl rfl rfl (by kernel_rfl) (by kernel_rfl) (by kernel_rfl) (by repeat (first | exact List.Sublist.refl _ | exact List.nil_sublist _ | refine List.Sublist.cons_cons _ ?_ | refine List.Sublist.cons _ ?_)) (yld_extract rfl rfl) rfl ?_
        refine any_take (listed' := [true, true, true, true, true, true, true, true, true, true, true, true, true, true, false].toArray) 13 rfl rfl rfl (by kernel_rfl) (by kernel_rfl) (by kernel_rfl) (by repeat (first | exact List.Sublist.refl _ | exact List.nil_sublist _ | refine List.Sublist.cons_cons _ ?_ | refine List.Sublist.cons _ ?_)) (yld_assign rfl) rfl ?_
        refine any_take (listed' := [true, true, true, true, true, true, true, true, true, true, true, true, true, true, true].toArray) 14 rfl rfl rfl (by kernel_rfl) (by kernel_rfl) (by kernel_rfl) (by repeat (first | exact List.Sublist.refl _ | exact List.nil_sublist _ | refine List.Sublist.cons_cons _ ?_ | refine List.Sublist.cons _ ?_)) (yld_assign rfl) rfl ?_
        refine any_done rfl (by kernel_rfl) ?_
        refine ex_then ?_
        refine cod_seq ?_
        refine any_begin [] F.follows 18 rfl [false, false, false, false, false, false, false, false, false, false, false, false, false, false, false, false, false, false] rfl ?_
        refine any_take (listed' := [true, false, false, false, false, false, false, false, false, false, false, false, false, false, false, false, false, false].toArray) 0 rfl rfl rfl (by kernel_rfl) (by kernel_rfl) (by kernel_rfl) (by repeat (first | exact List.Sublist.refl _ | exact List.nil_sublist _ | refine List.Sublist.cons_cons _ ?_ | refine List.Sublist.cons _ ?_)) (yld_move rfl) rfl ?_
        refine any_take (listed' := [true, true, false, false, false, false, false, false, false, false, false, false, false, false, false, false, false, false].toArray) 1 rfl rfl rfl (by kernel_rfl) (by kernel_rfl) (by kernel_rfl) (by repeat (first | exact List.Sublist.refl _ | exact List.nil_sublist _ | refine List.Sublist.cons_cons _ ?_ | refine List.Sublist.cons _ ?_)) (yld_move rfl) rfl ?_
        refine any_take (listed' := [true, true, true, false, false, false, false, false, false, false, false, false, false, false, false, false, false, false].toArray) 2 rfl rfl rfl (by kernel_rfl) (by kernel_rfl) (by kernel_rfl) (by repeat (first | exact List.Sublist.refl _ | exact List.nil_sublist _ | refine List.Sublist.cons_cons _ ?_ | refine List.Sublist.cons _ ?_)) (yld_index (j := i) rfl rfl Tryd.underlying29 F.ti22 rfl hi3) rfl ?_
        refine any_take (listed' := [true, true, true, true, false, false, false, false, false, false, false, false, false, false, false, false, false, false].toArray) 3 rfl rfl rfl (by kernel_rfl) (by kernel_rfl) (by kernel_rfl) (by repeat (first | exact List.Sublist.refl _ | exact List.nil_sublist _ | refine List.Sublist.cons_cons _ ?_ | refine List.Sublist.cons _ ?_)) (yld_load_at (v := .slice A L.length c) rfl F.one22 (fun a w ha => cell_of_blk (ha.mem_blk (InB.mem (b := bS))) (by rw [Nat.zero_add, Nat.mul_one]; exact hsel))) rfl ?_
        refine any_take (listed' := [true, true, true, true, true, false, false, false, false, false, false, false, false, false, false, false, false, false].toArray) 4 rfl rfl rfl (by kernel_rfl) (by kernel_rfl) (by kernel_rfl) (by repeat (first | exact List.Sublist.refl _ | exact List.nil_sublist _ | refine List.Sublist.cons_cons _ ?_ | refine List.Sublist.cons _ ?_)) (yld_move rfl) rfl ?_
        refine any_take (listed' := [true, true, true, true, true, true, false, false, false, false, false, false, false, false, false, false, false, false].toArray) 5 rfl rfl rfl (by kernel_rfl) (by kernel_rfl) (by kernel_rfl) (by repeat (first | exact List.Sublist.refl _ | exact List.nil_sublist _ | refine List.Sublist.cons_cons _ ?_ | refine List.Sublist.cons _ ?_)) (yld_move rfl) rfl ?_
        refine any_take (listed' := [true, true, true, true, true, true, true, false, false, false, false, false, false, false, false, false, false, false].toArray) 6 rfl rfl rfl (by kernel_rfl) (by kernel_rfl) (by kernel_rfl) (by repeat (first | exact List.Sublist.refl _ | exact List.nil_sublist _ | refine List.Sublist.cons_cons _ ?_ | refine List.Sublist.cons _ ?_)) (yld_index (j := k) rfl rfl Tryd.underlying25 F.ti3 rfl hk3) rfl ?_
        refine any_take (listed' := [true, true, true, true, true, true, true, true, false, false, false, false, false, false, false, false, false, false].toArray) 7 rfl rfl rfl (by kernel_rfl) (by kernel_rfl) (by kernel_rfl) (by repeat (first | exact List.Sublist.refl _ | exact List.nil_sublist _ | refine List.Sublist.cons_cons _ ?_ | refine List.Sublist.cons _ ?_)) (yld_load_at (v := .int .i64 m) rfl F.one3 (fun a w ha => cell_of_blk (ha.mem_blk (InB.mem (b := b52))) (by rw [Nat.zero_add, Nat.mul_one]; exact hmk))) rfl ?_
        refine any_take (listed' := [true, true, true, true, true, true, true, true, true, false, false, false, false, false, false, false, false, false].toArray) 8 rfl rfl rfl (by kernel_rfl) (by kernel_rfl) (by kernel_rfl) (by repeat (first | exact List.Sublist.refl _ | exact List.nil_sublist _ | refine List.Sublist.cons_cons _ ?_ | refine List.Sublist.cons _ ?_)) (yld_move rfl) rfl ?_
        refine any_take (listed' := [true, true, true, true, true, true, true, true, true, true, false, false, false, false, false, false, false, false].toArray) 9 rfl rfl rfl (by kernel_rfl) (by kernel_rfl) (by kernel_rfl) (by repeat (first | exact List.Sublist.refl _ | exact List.nil_sublist _ | refine List.Sublist.cons_cons _ ?_ | refine List.Sublist.cons _ ?_)) (yld_move rfl) rfl ?_
        refine any_take (listed' := [true, true, true, true, true, true, true, true, true, true, true, false, false, false, false, false, false, false].toArray) 10 rfl rfl rfl (by kernel_rfl) (by kernel_rfl) (by kernel_rfl) (by repeat (first | exact List.Sublist.refl _ | exact List.nil_sublist _ | refine List.Sublist.cons_cons _ ?_ | refine List.Sublist.cons _ ?_)) (yld_index (j := k) rfl rfl Tryd.underlying25 F.ti3 rfl hk3) rfl ?_
        refine any_take (listed' := [true, true, true, true, true, true, true, true, true, true, true, true, false, false, false, false, false, false].toArray) 11 rfl rfl rfl (by kernel_rfl) (by kernel_rfl) (by kernel_rfl) (by repeat (first | exact List.Sublist.refl _ | exact List.nil_sublist _ | refine List.Sublist.cons_cons _ ?_ | refine List.Sublist.cons _ ?_)) (yld_load_at (v := .int .i64 p) rfl F.one3 (fun a w ha => cell_of_blk (ha.mem_blk (InB.mem (b := b58))) (by rw [Nat.zero_add, Nat.mul_one]; exact hpk))) rfl ?_
        refine any_one (listed' := [true, true, true, true, true, true, true, true, true, true, true, true, true, false, false, false, false, false].toArray) 12 (by kernel_rfl) rfl rfl ?_
        refine lst_fn (X := Option Addr × Nat) (vs := [_, _, _]) (p := fun _ => True) (val := fun y => .tuple #[.slice y.1 ((twoR needA L m p).1).length y.2, .int .i64 (((twoR needA L m p).2 : Nat) : Int)]) (rs := fun y => [.row 3 1 y.1 ((twoR needA L m p).1).length y.2 (ints ((twoR needA L m p).1))]) rfl rfl F.ent56 (fun a w ha => (rNeeded_all A c L m p w (hRd _ _ _ _ _ ha rfl rfl rfl (fun r hr => by simp at hr; rcases hr with h | h <;> subst h <;> simp))).mono (fun e w' h => by obtain ⟨A', c', h1, h2⟩ := h; exact ⟨(A', c'), trivial, h1, h2⟩)) ?_
        rintro ⟨uA2, uc2⟩ -
        dsimp only [List.cons_append, List.nil_append]
        refine lst_nil ?_
        refine any_next (by repeat (first | exact List.Sublist.refl _ | exact List.nil_sublist _ | refine List.Sublist.cons_cons _ ?_ | refine List.Sublist.cons _ ?_)) ?_
        refine any_take (listed' := [true, true, true, true, true, true, true, true, true, true, true, true, true, true, false, false, false, false].toArray) 13 rfl rfl rfl (by kernel_rfl) (by kernel_rfl) (by kernel_rfl) (by repeat (first | exact List.Sublist.refl _ | exact List.nil_sublist _ | refine List.Sublist.cons_cons _ ?_ | refine List.Sublist.cons _ ?_)) (yld_move rfl) rfl ?_
        refine any_take (listed' := [true, true, true, true, true, true, true, true, true, true, true, true, true, true, true, false, false, false].toArray) 14 rfl rfl rfl (by kernel_rfl) (by kernel_rfl) (by kernel_rfl) (by repeat (first | exact List.Sublist.refl _ | exact List.nil_sublist _ | refine List.Sublist.cons_cons _ ?_ | refine List.Sublist.cons _ ?_)) (yld_extract rfl rfl) rfl ?_
        refine any_take (listed' := [true, true, true, true, true, true, true, true, true, true, true, true, true, true, true, true, false, false].toArray) 15 rfl rfl rfl (by kernel_rfl) (by kernel_rfl) (by kernel_rfl) (by repeat (first | exact List.Sublist.refl _ | exact List.nil_sublist _ | refine List.Sublist.cons_cons _ ?_ | refine List.Sublist.cons _ ?_)) (yld_extract rfl rfl) rfl ?_
        refine any_take (listed' := [true, true, true, true, true, true, true, true, true, true, true, true, true, true, true, true, true, false].toArray) 16 rfl rfl rfl (by kernel_rfl) (by kernel_rfl) (by kernel_rfl) (by repeat (first | exact List.Sublist.refl _ | exact List.nil_sublist _ | refine List.Sublist.cons_cons _ ?_ | refine List.Sublist.cons _ ?_)) (yld_assign rfl) rfl ?_
        refine any_take (listed' := [true, true, true, true, true, true, true, true, true, true, true, true, true, true, true, true, true, true].toArray) 17 rfl rfl rfl (by kernel_rfl) (by kernel_rfl) (by kernel_rfl) (by repeat (first | exact List.Sublist.refl _ | exact List.nil_sublist _ | refine List.Sublist.cons_cons _ ?_ | refine List.Sublist.cons _ ?_)) (yld_assign rfl) rfl ?_
        refine any_done rfl (by kernel_rfl) ?_
        refine ex_then ?_
        refine cod_seq ?_
        refine any_begin [] F.follows 15 rfl [false, false, false, false, false, false, false, false, false, false, false, false, false, false, false] rfl ?_
        refine any_take (listed' := [true, false, false, false, false, false, false, false, false, false, false, false, false, false, false].toArray) 0 rfl rfl rfl (by kernel_rfl) (by kernel_rfl) (by kernel_rfl) (by repeat (first | exact List.Sublist.refl _ | exact List.nil_sublist _ | refine List.Sublist.cons_cons _ ?_ | refine List.Sublist.cons _ ?_)) (yld_move rfl) rfl ?_
        refine any_take (listed' := [true, true, false, false, false, false, false, false, false, false, false, false, false, false, false].toArray) 1 rfl rfl rfl (by kernel_rfl) (by kernel_rfl) (by kernel_rfl) (by repeat (first | exact List.Sublist.refl _ | exact List.nil_sublist _ | refine List.Sublist.cons_cons _ ?_ | refine List.Sublist.cons _ ?_)) (yld_move rfl) rfl ?_
        refine any_take (listed' := [true, true, true, false, false, false, false, false, false, false, false, false, false, false, false].toArray) 2 rfl rfl rfl (by kernel_rfl) (by kernel_rfl) (by kernel_rfl) (by repeat (first | exact List.Sublist.refl _ | exact List.nil_sublist _ | refine List.Sublist.cons_cons _ ?_ | refine List.Sublist.cons _ ?_)) (yld_move rfl) rfl ?_
        refine any_take (listed' := [true, true, true, true, false, false, false, false, false, false, false, false, false, false, false].toArray) 3 rfl rfl rfl (by kernel_rfl) (by kernel_rfl) (by kernel_rfl) (by repeat (first | exact List.Sublist.refl _ | exact List.nil_sublist _ | refine List.Sublist.cons_cons _ ?_ | refine List.Sublist.cons _ ?_)) (yld_index (j := k) rfl rfl Tryd.underlying25 F.ti3 rfl hk3) rfl ?_
        refine any_take (listed' := [true, true, true, true, true, false, false, false, false, false, false, false, false, false, false].toArray) 4 rfl rfl rfl (by kernel_rfl) (by kernel_rfl) (by kernel_rfl) (by repeat (first | exact List.Sublist.refl _ | exact List.nil_sublist _ | refine List.Sublist.cons_cons _ ?_ | refine List.Sublist.cons _ ?_)) (yld_load_at (v := .int .i64 m) rfl F.one3 (fun a w ha => cell_of_blk (ha.mem_blk (InB.mem (b := b52))) (by rw [Nat.zero_add, Nat.mul_one]; exact hmk))) rfl ?_
        refine any_take (listed' := [true, true, true, true, true, true, false, false, false, false, false, false, false, false, false].toArray) 5 rfl rfl rfl (by kernel_rfl) (by kernel_rfl) (by kernel_rfl) (by repeat (first | exact List.Sublist.refl _ | exact List.nil_sublist _ | refine List.Sublist.cons_cons _ ?_ | refine List.Sublist.cons _ ?_)) (yld_move rfl) rfl ?_
        refine any_take (listed' := [true, true, true, true, true, true, true, false, false, false, false, false, false, false, false].toArray) 6 rfl rfl rfl (by kernel_rfl) (by kernel_rfl) (by kernel_rfl) (by repeat (first | exact List.Sublist.refl _ | exact List.nil_sublist _ | refine List.Sublist.cons_cons _ ?_ | refine List.Sublist.cons _ ?_)) (yld_move rfl) rfl ?_
        refine any_take (listed' := [true, true, true, true, true, true, true, true, false, false, false, false, false, false, false].toArray) 7 rfl rfl rfl (by kernel_rfl) (by kernel_rfl) (by kernel_rfl) (by repeat (first | exact List.Sublist.refl _ | exact List.nil_sublist _ | refine List.Sublist.cons_cons _ ?_ | refine List.Sublist.cons _ ?_)) (yld_index (j := k) rfl rfl Tryd.underlying25 F.ti3 rfl hk3) rfl ?_
        refine any_take (listed' := [true, true, true, true, true, true, true, true, true, false, false, false, false, false, false].toArray) 8 rfl rfl rfl (by kernel_rfl) (by kernel_rfl) (by kernel_rfl) (by repeat (first | exact List.Sublist.refl _ | exact List.nil_sublist _ | refine List.Sublist.cons_cons _ ?_ | refine List.Sublist.cons _ ?_)) (yld_load_at (v := .int .i64 p) rfl F.one3 (fun a w ha => cell_of_blk (ha.mem_blk (InB.mem (b := b58))) (by rw [Nat.zero_add, Nat.mul_one]; exact hpk))) rfl ?_
        refine any_one (listed' := [true, true, true, true, true, true, true, true, true, true, false, false, false, false, false].toArray) 9 (by kernel_rfl) rfl rfl ?_
        refine lst_fn (X := Option Addr × Nat) (vs := [_, _, _]) (p := fun _ => True) (val := fun y => .tuple #[.slice y.1 ((twoR spoilA L m p).1).length y.2, .int .i64 (((twoR spoilA L m p).2 : Nat) : Int)]) (rs := fun y => [.row 3 1 y.1 ((twoR spoilA L m p).1).length y.2 (ints ((twoR spoilA L m p).1))]) rfl rfl F.ent57 (fun a w ha => (Spoils_all dA dc L m p w (row_reads ha (cells := RA.cells) (size := 5) (e := 24) (c := dc) (n := L.length) (fun _ => rfl) (InR.mem (A := dA)) rfl)).mono (fun e w' h => by obtain ⟨A', c', h1, h2⟩ := h; exact ⟨(A', c'), trivial, h1, h2⟩)) ?_
        rintro ⟨vA1, vc1⟩ -
        dsimp only [List.cons_append, List.nil_append]
        refine lst_nil ?_
        refine any_next (by repeat (first | exact List.Sublist.refl _ | exact List.nil_sublist _ | refine List.Sublist.cons_cons _ ?_ | refine List.Sublist.cons _ ?_)) ?_
        refine any_take (listed' := [true, true, true, true, true, true, true, true, true, true, true, false, false, false, false].toArray) 10 rfl rfl rfl (by kernel_rfl) (by kernel_rfl) (by kernel_rfl) (by repeat (first | exact List.Sublist.refl _ | exact List.nil_sublist _ | refine List.Sublist.cons_cons _ ?_ | refine List.Sublist.cons _ ?_)) (yld_move rfl) rfl ?_
        refine any_take (listed' := [true, true, true, true, true, true, true, true, true, true, true, true, false, false, false].toArray) 11 rfl rfl rfl (by kernel_rfl) (by kernel_rfl) (by kernel_rfl) (by repeat (first | exact List.Sublist.refl _ | exact List.nil_sublist _ | refine List.Sublist.cons_cons _ ?_ | refine List.Sublist.cons _ ?_)) (yld_extract rfl rfl) rfl ?_
        refine any_take (listed' := [true, true, true, true, true, true, true, true, true, true, true, true, true, false, false].toArray) 12 rfl rfl rfl (by kernel_rfl) (by kernel_rfl) (by kernel_rfl) (by repeat (first | exact List.Sublist.refl _ | exact List.nil_sublist _ | refine List.Sublist.cons_cons _ ?_ | refine List.Sublist.cons _ ?_)) (yld_extract rfl rfl) rfl ?_
        refine any_take (listed' := [true, true, true, true, true, true, true, true, true, true, true, true, true, true, false].toArray) 13 rfl rfl rfl (by kernel_rfl) (by kernel_rfl) (by kernel_rfl) (by repeat (first | exact List.Sublist.refl _ | exact List.nil_sublist _ | refine List.Sublist.cons_cons _ ?_ | refine List.Sublist.cons _ ?_)) (yld_assign rfl) rfl ?_
        refine any_take (listed' := [true, true, true, true, true, true, true, true, true, true, true, true, true, true, true].toArray) 14 rfl rfl rfl (by kernel_rfl) (by kernel_rfl) (by kernel_rfl) (by repeat (first | exact List.Sublist.refl _ | exact List.nil_sublist _ | refine List.Sublist.cons_cons _ ?_ | refine List.Sublist.cons _ ?_)) (yld_assign rfl) rfl ?_
        refine any_done rfl (by kernel_rfl) ?_
        refine ex_then ?_
        refine cod_seq ?_
        refine any_begin [] F.follows 18 rfl [false, false, false, false, false, false, false, false, false, false, false, false, false, false, false, false, false, false] rfl ?_
        refine any_take (listed' := [true, false, false, false, false, false, false, false, false, false, false, false, false, false, false, false, false, false].toArray) 0 rfl rfl rfl (by kernel_rfl) (by kernel_rfl) (by kernel_rfl) (by repeat (first | exact List.Sublist.refl _ | exact List.nil_sublist _ | refine List.Sublist.cons_cons _ ?_ | refine List.Sublist.cons _ ?_)) (yld_move rfl) rfl ?_
        refine any_take (listed' := [true, true, false, false, false, false, false, false, false, false, false, false, false, false, false, false, false, false].toArray) 1 rfl rfl rfl (by kernel_rfl) (by kernel_rfl) (by kernel_rfl) (by repeat (first | exact List.Sublist.refl _ | exact List.nil_sublist _ | refine List.Sublist.cons_cons _ ?_ | refine List.Sublist.cons _ ?_)) (yld_move rfl) rfl ?_
        refine any_take (listed' := [true, true, true, false, false, false, false, false, false, false, false, false, false, false, false, false, false, false].toArray) 2 rfl rfl rfl (by kernel_rfl) (by kernel_rfl) (by kernel_rfl) (by repeat (first | exact List.Sublist.refl _ | exact List.nil_sublist _ | refine List.Sublist.cons_cons _ ?_ | refine List.Sublist.cons _ ?_)) (yld_index (j := i) rfl rfl Tryd.underlying29 F.ti22 rfl hi3) rfl ?_
        refine any_take (listed' := [true, true, true, true, false, false, false, false, false, false, false, false, false, false, false, false, false, false].toArray) 3 rfl rfl rfl (by kernel_rfl) (by kernel_rfl) (by kernel_rfl) (by repeat (first | exact List.Sublist.refl _ | exact List.nil_sublist _ | refine List.Sublist.cons_cons _ ?_ | refine List.Sublist.cons _ ?_)) (yld_load_at (v := .slice A L.length c) rfl F.one22 (fun a w ha => cell_of_blk (ha.mem_blk (InB.mem (b := bS))) (by rw [Nat.zero_add, Nat.mul_one]; exact hsel))) rfl ?_
        refine any_take (listed' := [true, true, true, true, true, false, false, false, false, false, false, false, false, false, false, false, false, false].toArray) 4 rfl rfl rfl (by kernel_rfl) (by kernel_rfl) (by kernel_rfl) (by repeat (first | exact List.Sublist.refl _ | exact List.nil_sublist _ | refine List.Sublist.cons_cons _ ?_ | refine List.Sublist.cons _ ?_)) (yld_move rfl) rfl ?_
        refine any_take (listed' := [true, true, true, true, true, true, false, false, false, false, false, false, false, false, false, false, false, false].toArray) 5 rfl rfl rfl (by kernel_rfl) (by kernel_rfl) (by kernel_rfl) (by repeat (first | exact List.Sublist.refl _ | exact List.nil_sublist _ | refine List.Sublist.cons_cons _ ?_ | refine List.Sublist.cons _ ?_)) (yld_move rfl) rfl ?_
        refine any_take (listed' := [true, true, true, true, true, true, true, false, false, false, false, false, false, false, false, false, false, false].toArray) 6 rfl rfl rfl (by kernel_rfl) (by kernel_rfl) (by kernel_rfl) (by repeat (first | exact List.Sublist.refl _ | exact List.nil_sublist _ | refine List.Sublist.cons_cons _ ?_ | refine List.Sublist.cons _ ?_)) (yld_index (j := k) rfl rfl Tryd.underlying25 F.ti3 rfl hk3) rfl ?_
        refine any_take (listed' := [true, true, true, true, true, true, true, true, false, false, false, false, false, false, false, false, false, false].toArray) 7 rfl rfl rfl (by kernel_rfl) (by kernel_rfl) (by kernel_rfl) (by repeat (first | exact List.Sublist.refl _ | exact List.nil_sublist _ | refine List.Sublist.cons_cons _ ?_ | refine List.Sublist.cons _ ?_)) (yld_load_at (v := .int .i64 m) rfl F.one3 (fun a w ha => cell_of_blk (ha.mem_blk (InB.mem (b := b52))) (by rw [Nat.zero_add, Nat.mul_one]; exact hmk))) rfl ?_
        refine any_take (listed' := [true, true, true, true, true, true, true, true, true, false, false, false, false, false, false, false, false, false].toArray) 8 rfl rfl rfl (by kernel_rfl) (by kernel_rfl) (by kernel_rfl) (by repeat (first | exact List.Sublist.refl _ | exact List.nil_sublist _ | refine List.Sublist.cons_cons _ ?_ | refine List.Sublist.cons _ ?_)) (yld_move rfl) rfl ?_
        refine any_take (listed' := [true, true, true, true, true, true, true, true, true, true, false, false, false, false, false, false, false, false].toArray) 9 rfl rfl rfl (by kernel_rfl) (by kernel_rfl) (by kernel_rfl) (by repeat (first | exact List.Sublist.refl _ | exact List.nil_sublist _ | refine List.Sublist.cons_cons _ ?_ | refine List.Sublist.cons _ ?_)) (yld_move rfl) rfl ?_
        refine any_take (listed' := [true, true, true, true, true, true, true, true, true, true, true, false, false, false, false, false, false, false].toArray) 10 rfl rfl rfl (by kernel_rfl) (by kernel_rfl) (by kernel_rfl) (by repeat (first | exact List.Sublist.refl _ | exact List.nil_sublist _ | refine List.Sublist.cons_cons _ ?_ | refine List.Sublist.cons _ ?_)) (yld_index (j := k) rfl rfl Tryd.underlying25 F.ti3 rfl hk3) rfl ?_
        refine any_take (listed' := [true, true, true, true, true, true, true, true, true, true, true, true, false, false, false, false, false, false].toArray) 11 rfl rfl rfl (by kernel_rfl) (by kernel_rfl) (by kernel_rfl) (by repeat (first | exact List.Sublist.refl _ | exact List.nil_sublist _ | refine List.Sublist.cons_cons _ ?_ | refine List.Sublist.cons _ ?_)) (yld_load_at (v := .int .i64 p) rfl F.one3 (fun a w ha => cell_of_blk (ha.mem_blk (InB.mem (b := b58))) (by rw [Nat.zero_add, Nat.mul_one]; exact hpk))) rfl ?_
        refine any_one (listed' := [true, true, true, true, true, true, true, true, true, true, true, true, true, false, false, false, false, false].toArray) 12 (by kernel_rfl) rfl rfl ?_
        refine lst_fn (X := Option Addr × Nat) (vs := [_, _, _]) (p := fun _ => True) (val := fun y => .tuple #[.slice y.1 ((twoR spoilA L m p).1).length y.2, .int .i64 (((twoR spoilA L m p).2 : Nat) : Int)]) (rs := fun y => [.row 3 1 y.1 ((twoR spoilA L m p).1).length y.2 (ints ((twoR spoilA L m p).1))]) rfl rfl F.ent58 (fun a w ha => (rSpoils_all A c L m p w (hRd _ _ _ _ _ ha rfl rfl rfl (fun r hr => by simp at hr; rcases hr with h | h <;> subst h <;> simp))).mono (fun e w' h => by obtain ⟨A', c', h1, h2⟩ := h; exact ⟨(A', c'), trivial, h1, h2⟩)) ?_
        rintro ⟨vA2, vc2⟩ -
        dsimp only [List.cons_append, List.nil_append]
        refine lst_nil ?_
        refine any_next (by repeat (first | exact List.Sublist.refl _ | exact List.nil_sublist _ | refine List.Sublist.cons_cons _ ?_ | refine List.Sublist.cons _ ?_)) ?_
        refine any_take (listed' := [true, true, true, true, true, true, true, true, true, true, true, true, true, true, false, false, false, false].toArray) 13 rfl rfl rfl (by kernel_rfl) (by kernel_rfl) (by kernel_rfl) (by repeat (first | exact List.Sublist.refl _ | exact List.nil_sublist _ | refine List.Sublist.cons_cons _ ?_ | refine List.Sublist.cons _ ?_)) (yld_move rfl) rfl ?_
        refine any_take (listed' := [true, true, true, true, true, true, true, true, true, true, true, true, true, true, true, false, false, false].toArray) 14 rfl rfl rfl (by kernel_rfl) (by kernel_rfl) (by kernel_rfl) (by repeat (first | exact List.Sublist.refl _ | exact List.nil_sublist _ | refine List.Sublist.cons_cons _ ?_ | refine List.Sublist.cons _ ?_)) (yld_extract rfl rfl) rfl ?_
        refine any_take (listed' := [true, true, true, true, true, true, true, true, true, true, true, true, true, true, true, true, false, false].toArray) 15 rfl rfl rfl (by kernel_rfl) (by kernel_rfl) (by kernel_rfl) (by repeat (first | exact List.Sublist.refl _ | exact List.nil_sublist _ | refine List.Sublist.cons_cons _ ?_ | refine List.Sublist.cons _ ?_)) (yld_extract rfl rfl) rfl ?_
        refine any_take (listed' := [true, true, true, true, true, true, true, true, true, true, true, true, true, true, true, true, true, false].toArray) 16 rfl rfl rfl (by kernel_rfl) (by kernel_rfl) (by kernel_rfl) (by repeat (first | exact List.Sublist.refl _ | exact List.nil_sublist _ | refine List.Sublist.cons_cons _ ?_ | refine List.Sublist.cons _ ?_)) (yld_assign rfl) rfl ?_
        refine any_take (listed' := [true, true, true, true, true, true, true, true, true, true, true, true, true, true, true, true, true, true].toArray) 17 rfl rfl rfl (by kernel_rfl) (by kernel_rfl) (by kernel_rfl) (by repeat (first | exact List.Sublist.refl _ | exact List.nil_sublist _ | refine List.Sublist.cons_cons _ ?_ | refine List.Sublist.cons _ ?_)) (yld_assign rfl) rfl ?_
        refine any_done rfl (by kernel_rfl) ?_
        refine ex_then ?_
        refine cod_seq ?_
        refine cod_region ?_
        refine lst_move rfl rfl ?_
        refine lst_move rfl rfl ?_
        refine lst_int (v := .bool false) rfl rfl rfl (fun w => by rw [bin_neq]; simp) ?_
        refine lst_move rfl rfl ?_
        refine lst_on rfl rfl ?_
        refine lst_move rfl rfl ?_
        refine lst_on rfl rfl ?_
        refine lst_move rfl rfl ?_
        refine lst_on rfl rfl ?_
        refine lst_int (v := .bool false) rfl rfl rfl (fun w => by rw [bin_neq]; simp) ?_
        refine lst_pick_false rfl rfl rfl ?_
        refine lst_move rfl rfl ?_
        refine lst_on rfl rfl ?_
        refine lst_move rfl rfl ?_
        refine lst_on rfl rfl ?_
        refine lst_move rfl rfl ?_
        refine lst_on rfl rfl ?_
        refine lst_fn0 (v := .bool true) (vs := [_, _]) rfl rfl F.ent32 (fun a w ha => by
          have h := eqInts_c uA1 uA2 uc1 uc2 (castL ((twoR needA L m p).1)) (castL ((twoR needA L m p).1)) (by rw [castL_len]; exact (Nat.le_trans (twoR_le needA_le L m p) (by omega))) w (RdL.cast (row_reads ha (cells := ncell) (size := 1) (e := 3) (c := uc1) (n := ((twoR needA L m p).1).length) (fun _ => rfl) (by rw [← ints_flat]; exact InR.mem (A := uA1)) rfl)) (RdL.cast (row_reads ha (cells := ncell) (size := 1) (e := 3) (c := uc2) (n := ((twoR needA L m p).1).length) (fun _ => rfl) (by rw [← ints_flat]; exact InR.mem (A := uA2)) rfl))
          rw [castL_len] at h
          exact h.mono (fun e w' h => ⟨h.1.trans (by simp), h.2⟩)) ?_
        refine lst_on rfl rfl ?_
        refine lst_not rfl rfl ?_
        refine lst_pick_false rfl rfl rfl ?_
        refine lst_move rfl rfl ?_
        refine lst_on rfl rfl ?_
        refine lst_move rfl rfl ?_
        refine lst_on rfl rfl ?_
        refine lst_move rfl rfl ?_
        refine lst_on rfl rfl ?_
        refine lst_fn0 (v := .bool true) (vs := [_, _]) rfl rfl F.ent32 (fun a w ha => by
          have h := eqInts_c vA1 vA2 vc1 vc2 (castL ((twoR spoilA L m p).1)) (castL ((twoR spoilA L m p).1)) (by rw [castL_len]; exact (Nat.le_trans (twoR_le spoilA_le L m p) (by omega))) w (RdL.cast (row_reads ha (cells := ncell) (size := 1) (e := 3) (c := vc1) (n := ((twoR spoilA L m p).1).length) (fun _ => rfl) (by rw [← ints_flat]; exact InR.mem (A := vA1)) rfl)) (RdL.cast (row_reads ha (cells := ncell) (size := 1) (e := 3) (c := vc2) (n := ((twoR spoilA L m p).1).length) (fun _ => rfl) (by rw [← ints_flat]; exact InR.mem (A := vA2)) rfl))
          rw [castL_len] at h
          exact h.mono (fun e w' h => ⟨h.1.trans (by simp), h.2⟩)) ?_
        refine lst_on rfl rfl ?_
        refine lst_not rfl rfl ?_
        refine lst_pick_false rfl rfl rfl ?_
        refine lst_move rfl rfl ?_
        refine lst_on rfl rfl ?_
        refine lst_move rfl rfl ?_
        refine lst_on rfl rfl ?_
        refine lst_move rfl rfl ?_
        refine lst_on rfl rfl ?_
        refine lst_move rfl rfl ?_
        refine lst_on rfl rfl ?_
        refine lst_index (j := i) rfl rfl rfl Tryd.underlying29 F.ti22 rfl hi3 ?_
        refine lst_on rfl rfl ?_
        refine lst_load_at (v := .slice A L.length c) rfl rfl F.one22 (fun a w ha => cell_of_blk (ha.mem_blk (InB.mem (b := bS))) (by rw [Nat.zero_add, Nat.mul_one]; exact hsel)) ?_
        refine lst_on rfl rfl ?_
        refine lst_fn0 (v := .bool true) (vs := [_, _]) rfl rfl F.ent33 (fun a w ha => EqAgents_c dA A dc c L (by omega) hLwf w (row_reads ha (cells := RA.cells) (size := 5) (e := 24) (c := dc) (n := L.length) (fun _ => rfl) (InR.mem (A := dA)) rfl) (hRd _ _ _ _ _ ha rfl rfl rfl (fun r hr => by simp at hr; rcases hr with h | h <;> subst h <;> simp))) ?_
        refine lst_on rfl rfl ?_
        refine lst_not rfl rfl ?_
        refine lst_pick_false rfl rfl rfl ?_
        refine lst_nil ?_
        refine ex_then ?_
        refine cod_cond_false rfl ?_
        refine cod_skip ?_
        refine ex_block_normal ?_
        refine ex_then ?_
        refine cod_region ?_
        refine lst_move rfl rfl ?_
        refine lst_int rfl rfl rfl (fun w => bin_add w (wrap_i64' _ (by omega) (by omega))) ?_
        refine lst_assign rfl rfl ?_
        refine lst_nil ?_
        refine ex_round' (k + 1) (by (try dsimp only); omega) (by (try dsimp only); omega) (by repeat (first | exact Sub.nil _ | refine Sub.cons rfl ?_)) (by repeat (first | exact Pck.nil _ | exact Pck.refl _ | (apply Pck.cons; focus ((repeat (first | exact Rem.here _ | apply Rem.there)); done)) | refine Pck.skip _ ?_))
      · skip
        refine cod_exit ?_
        refine ex_then_exit ?_
        refine ex_then_exit ?_
        refine ex_block_exit ?_
        refine ex_block_normal ?_
        refine ex_then ?_
        refine cod_region ?_
        refine lst_move rfl rfl ?_
        refine lst_int rfl rfl rfl (fun w => bin_add w (wrap_i64' _ (by omega) (by omega))) ?_
        refine lst_assign rfl rfl ?_
        refine lst_nil ?_
        refine ex_round' (i + 1, t2 + 1 + 1 + 4 + 4 + 3 + 3, s6) ⟨by (try dsimp only); omega, by (try dsimp only); omega, hs6⟩ (by (try dsimp only); omega) (by repeat (first | exact Sub.nil _ | refine Sub.cons rfl ?_)) (by repeat (first | exact Pck.nil _ | exact Pck.refl _ | (apply Pck.cons; focus ((repeat (first | exact Rem.here _ | apply Rem.there)); done)) | refine Pck.skip _ ?_))
    · skip
      refine cod_exit ?_
      refine ex_then_exit ?_
      refine ex_then_exit ?_
      refine ex_block_exit ?_
      refine ex_then ?_
      refine cod_seq ?_
      refine cod_region ?_
      refine lst_fn0 (vs := []) rfl rfl F.ent21 (fun a w ha => fined_c w) ?_
      refine lst_assign rfl rfl ?_
      refine lst_nil ?_
      refine ex_then ?_
      refine cod_ret ?_
      exact ex_ret rfl (fun a w ha => res_one rfl rfl ha) (fun a w ha => ⟨rfl, ha.grown (List.nil_sublist _)⟩)

end Go.Proofs.YtofkhehcnfiopaaDoor.N
namespace Go.Proofs.YtofkhehcnfiopaaDoor.N
open Go
theorem returnsInLeavingWide_of_calls {a : Assume} {C : Checked} {os : Os} {f : FuncId} {r : Reach} {Pre : World → Array Value → Prop} {Post : World → Array Value → Value → World → Prop}
    (own : ownKnob C.prog.godebug = none) (started : os.Started) (noInit : C.prog.inits.idxOf? f = none)
    (witness : ∃ (w : World) (tape : Tape) (i : Input), w.os = os ∧ (w.forCall tape i).Shaped C.prog ∧ i.vars = [] ∧ Input.okWide C.prog (w.forCall tape i) r w.heap.size f i ∧ Pre (w.forCall tape i).memory i.args ∧
      a.holds C.prog (lone (Frame.enter C.prog f i.args .normal) [] (w.forCall tape i)))
    (contract : ∀ (w : World) (tape : Tape) (i : Input), w.os = os → (w.forCall tape i).ShapedOpen C.prog → i.vars = [] → Input.okWide C.prog (w.forCall tape i) r w.heap.size f i → Pre (w.forCall tape i).memory i.args →
      a.holds C.prog (lone (Frame.enter C.prog f i.args .normal) [] (w.forCall tape i)) →
      Calls C.prog f i.args (w.forCall tape i) fun
        | .returned v, w' => Post (w.forCall tape i).blind i.args v w'.blind
        | _, _ => False) :
    ReturnsInLeavingWide a C os f r Pre Post := fun enter => by
  obtain ⟨w0, t0, i0, a1, a2, a3, a4, a5, a6⟩ := witness
  refine ⟨enter, own, started, ⟨w0, t0, i0, a1, a2, a3, a4, a5, a6, trivial⟩, fun w tape i h => ?_⟩
  obtain ⟨n, v, w', fr, hn, hend, hp⟩ := (contract w tape i h.1 h.2.1 h.2.2.1 h.2.2.2.1 h.2.2.2.2.1 h.2.2.2.2.2.1).done_lone noInit
  have hal := alone_of_lone (w' := w') hn
  refine ⟨n + 1, v, w', hend, (clean_of_lone hn).2, roomy_placeholder .., hp, ⟨n, _, hn, step_of_runs hn hend, ⟨hal.2.1, onlyLeaving_of_quiet hal.1, hal.2.2⟩⟩, fun _ _ _ => trivial⟩
theorem returnsInLeavingWide_of_change_and {H : Type} {enc : TypeId × Value → H} {a : Assume} {C : Checked} {os : Os} {f : FuncId} {fn : Func} {s : ChangeSpec} {conds : List PathCond} {apart fresh handsOn again : Bool} {X : World → Array Value → Prop}
    (hX : ∀ (w w' : World) (args : Array Value), w.heap = w'.heap → X w args → X w' args)
    (own : ownKnob C.prog.godebug = none) (started : os.Started) (noInit : C.prog.inits.idxOf? f = none) (hfn : C.prog.funcs[f]? = some fn)
    (witness : ∃ (w : World) (tape : Tape) (i : Input), w.os = os ∧ (w.forCall tape i).Shaped C.prog ∧ i.vars = [] ∧ Input.okWide C.prog (w.forCall tape i) .any w.heap.size f i ∧
      ((s.pre enc C.prog fn conds apart (w.forCall tape i).memory i.args ∧ X (w.forCall tape i).memory i.args) ∧ sizedMet enc C.prog fn (OpenSpec.ofChange s) apart (w.forCall tape i).memory i.args) ∧ a.holds C.prog (lone (Frame.enter C.prog f i.args .normal) [] (w.forCall tape i)))
    (contract : ∀ (W : World) (base : Nat) (args : Array Value) (ds gs : List (DataW H)) (before : List MemPlace),
      (∀ (j : Nat) t v, fn.params[j]? = some t → args[j]? = some v → Value.okWide C.prog W .any base t v) →
      DataW.Whole enc C.prog fn.params.toList s.vars apart W args.toList ds gs before →
      conds.all (PathCond.test C.prog ⟨fn.params.toList, ds, s.plain.varTypes C.prog, gs⟩) = true →
      (DataW.weightsEach C.prog (fn.params.toList ++ s.plain.varTypes C.prog) (ds ++ gs)).all (· ≤ reachBytes) = true → X W args →
      a.holds C.prog (lone (Frame.enter C.prog f args .normal) [] W) →
      Calls C.prog f args W fun e W' => ∃ v, e = .returned v ∧ s.post enc C.prog fn apart fresh handsOn again W args v W') :
    ReturnsInLeavingWide a C os f .any (fun w args => (s.pre enc C.prog fn conds apart w args ∧ X w args) ∧ sizedMet enc C.prog fn (OpenSpec.ofChange s) apart w args) (s.post enc C.prog fn apart fresh handsOn again) := by
  refine returnsInLeavingWide_of_calls own started noInit witness ?_
  intro w tape i _ _ _ hok hpre hholds
  obtain ⟨_, _, _, fn', hfn', _, _, _, _, hval⟩ := hok
  have e : fn' = fn := Option.some.inj (hfn'.symm.trans hfn)
  subst e
  obtain ⟨⟨⟨ds, gs, before, hw, hc⟩, hx⟩, hz⟩ := hpre
  have hw' := DataW.Whole.of_heap (w' := w.forCall tape i) (by rfl) hw
  refine (contract (w.forCall tape i) w.heap.size i.args ds gs before hval hw' hc (hz.weights hw) (hX _ _ _ (by rfl) hx) hholds).mono fun e W' ⟨v, he, hp⟩ => ?_
  subst he
  exact ChangeSpec.post_blind hp
end Go.Proofs.YtofkhehcnfiopaaDoor.N
