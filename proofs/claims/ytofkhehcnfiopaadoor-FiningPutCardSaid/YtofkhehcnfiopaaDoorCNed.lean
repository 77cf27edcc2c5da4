/- Parts of the walks of the laws on fining: Ned, F24. -/
import Derived.Test.YtofkhehcnfiopaaDoorCClr
import Derived.Test.YtofkhehcnfiopaaDoorProg
namespace Go.Proofs.YtofkhehcnfiopaaDoor.N
open Go Go.RowKit Go.Proofs
/-- What Shortest says. -/
structure ShS (ags : List Ag) (p f : Nat) (W : List Nat) (E : Nat) : Prop where
  yes : E = 0 → Clr ags (usedAll ags.length) p f ∧ (∃ c, Wy ags (usedAll ags.length) p f c W.length) ∧ ∀ c k, Wy ags (usedAll ags.length) p f c k → W.length ≤ k
  no : E ≠ 0 → E = 11 ∧ ¬ Clr ags (usedAll ags.length) p f ∧ W = []
theorem ShS.zero {ags : List Ag} {p f E : Nat} {W : List Nat} (h : ShS ags p f W E) (hc : Clr ags (usedAll ags.length) p f) : E = 0 := by
  by_cases hE : E = 0
  · exact hE
  · exact absurd hc (h.no hE).2.1
theorem ShS.iff {ags : List Ag} {p f E : Nat} {W : List Nat} (h : ShS ags p f W E) : E = 0 ↔ Clr ags (usedAll ags.length) p f := ⟨fun hE => (h.yes hE).1, h.zero⟩
theorem ShS.err {ags : List Ag} {p f E : Nat} {W : List Nat} (h : ShS ags p f W E) : E = 0 ∨ E = 11 := by
  by_cases hE : E = 0
  · exact .inl hE
  · exact .inr (h.no hE).1
theorem Shortest_s (A : Option Addr) (c : Nat) (ags : List Ag) (hok : Oks ags) (f p : Nat) (hf : f < 64) (hp : p < 64) (w : World) (hA : RdL Ag.cells 5 w A ags) : Calls Tryd.prog 53 #[.slice A ags.length c, .int .i64 (f : Int), .int .i64 (p : Int)] w fun e w' => ∃ (W : List Nat) (E : Nat) (A' : Option Addr) (c' : Nat),
    ShS ags p f W E ∧ e = .returned (.tuple #[.slice A' W.length c', .int .i64 (E : Int)]) ∧ Grew w w' [.row 3 1 A' W.length c' (ints W)] := by
  refine (Shortest_ok A c ags hok f p hf hp w hA).mono fun e w' h => ?_
  obtain ⟨o, h1, h2, h3⟩ := h
  obtain ⟨s1, s2, s3⟩ := short_spec h1
  cases o with
  | none => exact ⟨[], 11, none, 0, ⟨fun h => absurd h (by decide), fun _ => ⟨rfl, fun hc => Bool.noConfusion (s1.2 hc), rfl⟩⟩, h2, h3⟩
  | some k =>
    refine ⟨k.how, 0, k.A, k.c, ⟨fun _ => ⟨s1.1 rfl, ?_, ?_⟩, fun h => absurd rfl h⟩, h2, h3⟩
    · rcases s2 with h | h
      · exact h
      · cases h
    · rcases s3 with h | h
      · cases h
      · exact h
/-- All agents but one. -/
def othL (ags : List Ag) (i j : Nat) : List Ag := ((List.range j).filter (fun x => decide (x ≠ i))).map fun x => ags.getD x default
theorem othL_yes {ags : List Ag} {i j : Nat} (h : (j : Int) ≠ (i : Int)) : othL ags i (j + 1) = othL ags i j ++ [ags.getD j default] := by
  unfold othL
  rw [List.range_succ, List.filter_append, List.map_append]
  congr 1
  have h' : j ≠ i := by omega
  simp [h']
theorem othL_no {ags : List Ag} {i j : Nat} (h : ¬ (j : Int) ≠ (i : Int)) : othL ags i (j + 1) = othL ags i j := by
  unfold othL
  rw [List.range_succ, List.filter_append, List.map_append]
  have h' : j = i := by omega
  simp [h']
theorem othL_len (ags : List Ag) (i j : Nat) : (othL ags i j).length ≤ j := by
  unfold othL
  rw [List.length_map]
  exact Nat.le_trans (List.length_filter_le _ _) (by simp)
theorem othL_mem {ags : List Ag} {i j : Nat} {x : Ag} : x ∈ othL ags i j ↔ ∃ k, k < j ∧ k ≠ i ∧ ags.getD k default = x := by
  unfold othL
  simp only [List.mem_map, List.mem_filter, List.mem_range, decide_eq_true_eq]
  constructor
  · rintro ⟨k, ⟨h1, h2⟩, h3⟩; exact ⟨k, h1, h2, h3⟩
  · rintro ⟨k, h1, h2, h3⟩; exact ⟨k, ⟨h1, h2⟩, h3⟩
theorem othL_ok {ags : List Ag} {i : Nat} (hok : Oks ags) : Oks (othL ags i ags.length) := by
  refine ⟨Nat.le_trans (othL_len ags i ags.length) hok.1, fun x hx => ?_⟩
  obtain ⟨k, h1, _, rfl⟩ := othL_mem.1 hx
  exact agd_ok hok h1
theorem oth_clr {ags : List Ag} {i p f : Nat} (hi : i < ags.length) : Clr (othL ags i ags.length) (usedAll (othL ags i ags.length).length) p f ↔ Clr ags (butN ags.length i) p f := by
  constructor
  · exact Clr.mono (fun x hx => (us_but hi).2 (othL_mem.1 (us_all.1 hx))) (fun _ h => h)
  · exact Clr.mono (fun x hx => us_all.2 (othL_mem.2 ((us_but hi).1 hx))) (fun _ h => h)
theorem mem_cast {L : List Nat} {i : Nat} : ((i : Int) ∈ L.map fun (n : Nat) => (n : Int)) ↔ i ∈ L := by
  rw [List.mem_map]
  constructor
  · rintro ⟨n, h1, h2⟩
    obtain rfl : n = i := by omega
    exact h1
  · intro h; exact ⟨i, h, rfl⟩
theorem find_cast {L : List Nat} {i : Nat} : (0 : Int) ≤ findL (L.map fun (n : Nat) => (n : Int)) (i : Int) ↔ i ∈ L := by
  rw [← mem_cast, ← Decidable.not_iff_not, Int.not_le]
  exact findL_neg
theorem need_eq {ags : List Ag} {i p f E : Nat} {W : List Nat} (hi : i < ags.length) (h : ShS (othL ags i ags.length) p f W E) :
    (decide ((E : Int) = 0) == decide ((0 : Int) ≤ findL ((needL ags p f ags.length).map fun (n : Nat) => (n : Int)) (i : Int))) = false := by
  have h1 : (E : Int) = 0 ↔ Clr ags (butN ags.length i) p f := by rw [← oth_clr hi, ← h.iff]; omega
  have h2 : (0 : Int) ≤ findL ((needL ags p f ags.length).map fun (n : Nat) => (n : Int)) (i : Int) ↔ ¬ Clr ags (butN ags.length i) p f := by
    rw [find_cast]
    unfold needL
    rw [fltP_mem, List.mem_range]
    exact ⟨fun h => h.2, fun h => ⟨hi, h⟩⟩
  by_cases hc : Clr ags (butN ags.length i) p f
  · rw [decide_eq_true (h1.2 hc), decide_eq_false (fun x => h2.1 x hc)]; rfl
  · rw [decide_eq_false (fun x => hc (h1.1 x)), decide_eq_true (h2.2 hc)]; rfl
theorem spoil_mem {ags : List Ag} {i p f : Nat} : (0 : Int) ≤ findL ((spoilL ags p f (canTo ags (usedAll ags.length) f ags.length)).map fun (n : Nat) => (n : Int)) (i : Int) ↔ (i < ags.length ∧ mayN (ags.getD i default) f = true) ∧ ¬ Clr ags (usedAll ags.length) p (putN (ags.getD i default) f) := by
  rw [find_cast]
  unfold spoilL
  rw [fltP_mem, can_all]
theorem spoil_eq {ags : List Ag} {i p f E : Nat} {W : List Nat} (hi : i < ags.length) (hm : mayN (ags.getD i default) f = true) (h : ShS ags p (putN (ags.getD i default) f) W E) :
    (decide ((E : Int) ≠ 0) != decide ((0 : Int) ≤ findL ((spoilL ags p f (canTo ags (usedAll ags.length) f ags.length)).map fun (n : Nat) => (n : Int)) (i : Int))) = false := by
  have h1 : (E : Int) = 0 ↔ Clr ags (usedAll ags.length) p (putN (ags.getD i default) f) := by rw [← h.iff]; omega
  by_cases hc : Clr ags (usedAll ags.length) p (putN (ags.getD i default) f)
  · rw [decide_eq_false (fun x => x (h1.2 hc)), decide_eq_false (fun x => (spoil_mem.1 x).2 hc)]; rfl
  · rw [decide_eq_true (show (E : Int) ≠ 0 from fun x => hc (h1.1 x)), decide_eq_true (spoil_mem.2 ⟨⟨hi, hm⟩, hc⟩)]; rfl
theorem spoil_eq' {ags : List Ag} {i p f : Nat} (hm : mayN (ags.getD i default) f = false) :
    (false != decide ((0 : Int) ≤ findL ((spoilL ags p f (canTo ags (usedAll ags.length) f ags.length)).map fun (n : Nat) => (n : Int)) (i : Int))) = false := by
  rw [decide_eq_false (fun x => by have := (spoil_mem.1 x).1.2; rw [hm] at this; cases this)]; rfl
end Go.Proofs.YtofkhehcnfiopaaDoor.N
namespace Go.Proofs.YtofkhehcnfiopaaDoor.N
open Go Go.RowKit Go.Proofs
theorem F.ent42 : Enters Tryd.prog 42 := enters_of Tryd.func42 rfl (by kernel_rfl)
theorem F.ent55 : Enters Tryd.prog 55 := enters_of Tryd.func55 rfl (by kernel_rfl)
theorem F.ent57 : Enters Tryd.prog 57 := enters_of Tryd.func57 rfl (by kernel_rfl)
theorem FiningNeeded_c (nA : Option Addr) (nc : Nat) (nums : List Int) (w : World) (hN : RdL icell 1 w nA nums) : Calls Tryd.prog 12 #[.slice nA nums.length nc] w fun e w' => e = .returned (.bool true) ∧ Grew w w' [] := by
  refine enter (N := 140) [(0, .slice nA nums.length nc)] Tryd.func12 rfl Tryd.ntmps12 rfl rfl ?_
  refine cod_seq ?_
  refine cod_region ?_
  refine lst_assign rfl rfl ?_
  refine lst_nil ?_
  refine ex_then ?_
  refine cod_seq ?_
  refine cod_region ?_
  refine lst_move rfl rfl ?_
  refine lst_fn (X := Nat) (vs := [_]) (p := fun _ => True) (val := fun b => .pointer (some ⟨b, 0, none⟩)) (rs := fun b => [.blk b (hatO nA nums.length nc 0 11400714819323198485)]) rfl rfl F.ent22 (fun a w ha => (NewHat_c nA nums.length nc w).mono (fun e w' h => by obtain ⟨b, h1, h2⟩ := h; exact ⟨b, trivial, h1, h2⟩)) ?_
  intro hb _
  dsimp only [List.cons_append, List.nil_append]
  refine lst_assign rfl rfl ?_
  refine lst_nil ?_
  refine ex_then ?_
  refine cod_seq ?_
  refine cod_region ?_
  refine lst_move rfl rfl ?_
  refine lst_call (X := Nat × Nat × List Ag × Option Addr × Nat) (first := []) (cap := []) (vs := [_, _, _]) (p := fun y => y.1 ≤ 200 ∧ y.2.1 < 18446744073709551616 ∧ y.2.2.1.length ≤ 4 ∧ ∀ x ∈ y.2.2.1, x.ok) (val := fun y => .slice y.2.2.2.1 y.2.2.1.length y.2.2.2.2) (rs := fun y => .row 24 5 y.2.2.2.1 y.2.2.1.length y.2.2.2.2 (y.2.2.1.flatMap Ag.cells) :: .blk hb (hatO nA nums.length nc y.1 y.2.1) :: []) rfl rfl rfl F.ent34 (fun a w ha => (AgentsOf_c (C := ⟨Tryd.prog, _, _, _, _⟩) (T := []) (tk := 0) (many := 4) (few := 4) rfl rfl hN (by omega) (by omega) (by omega) (by omega) (by omega) ha).mono (fun e w' h => by obtain ⟨t', s', l, A', c', h1, h2, h3, h4, h5, h6⟩ := h; exact ⟨(t', s', l, A', c'), ⟨by omega, h2, h3, h4⟩, h5, h6⟩)) ?_
  rintro ⟨t1, s1, ags, aA, ac⟩ ⟨ht1, hs1, hagl, hago⟩
  dsimp only at ht1 hs1 hagl hago ⊢
  have hok : Oks ags := ⟨by omega, hago⟩
  refine lst_move rfl rfl ?_
  refine lst_call_pul (X := Nat × Nat) (vs := [_, _]) hb (fun y => hatO nA nums.length nc (t1 + 1) (y.1)) (fun y => y.1 < 18446744073709551616 ∧ y.2 ≤ (15 : Int).toNat) (fun y => .int .i64 (y.2 : Int)) rfl rfl F.ent25 (fun a w ha => (To_c (C := ⟨Tryd.prog, _, _, _, _⟩) rfl rfl hN (tk := t1) (st := s1) (n := 15) (by omega) hs1 (by omega) ha).mono (fun e w' h => by obtain ⟨s', x, h1, h2, h3, h4⟩ := h; exact ⟨(s', x), ⟨h1, h2⟩, h3, h4⟩)) ?_
  rintro ⟨s2, m1⟩ ⟨hs2, hm1⟩
  dsimp only at hs2 hm1 ⊢
  have hlm1 : m1 ≤ 15 := by omega
  refine lst_move rfl rfl ?_
  refine lst_call_pul (X := Nat × Nat) (vs := [_, _]) hb (fun y => hatO nA nums.length nc (t1 + 1 + 4 + 4) (y.1)) (fun y => y.1 < 18446744073709551616 ∧ y.2 < 64) (fun y => .int .i64 (y.2 : Int)) rfl rfl F.ent26 (fun a w ha => (PassOf_c (C := ⟨Tryd.prog, _, _, _, _⟩) rfl rfl hN (tk := t1 + 1) (st := s2) (few := 4) (by omega) hs2 (by omega) ha).mono (fun e w' h => by obtain ⟨s', x, h1, h2, h3, h4⟩ := h; exact ⟨(s', x), ⟨h1, h2⟩, h3, h4⟩)) ?_
  rintro ⟨s3, p⟩ ⟨hs3, hp⟩
  dsimp only at hs3 hp ⊢
  refine lst_assign rfl rfl ?_
  refine lst_assign rfl rfl ?_
  refine lst_assign rfl rfl ?_
  refine lst_nil ?_
  refine ex_then ?_
  refine cod_seq ?_
  refine cod_region ?_
  refine lst_move rfl rfl ?_
  refine lst_move rfl rfl ?_
  refine lst_move rfl rfl ?_
  refine lst_fn (X := List Nat × Nat × Option Addr × Nat) (vs := [_, _, _]) (p := fun y => (y.2.1 = 0 ∧ Clr ags (usedAll ags.length) p m1 ∧ y.1 = (needL ags p m1 ags.length) ∨ y.2.1 = 11 ∧ ¬ Clr ags (usedAll ags.length) p m1 ∧ y.1 = [])) (val := fun y => .tuple #[.slice y.2.2.1 y.1.length y.2.2.2, .int .i64 (y.2.1 : Int)]) (rs := fun y => [.row 3 1 y.2.2.1 y.1.length y.2.2.2 (ints y.1)]) rfl rfl F.ent55 (fun a w ha => (Needed_ok aA ac ags hok m1 p (by omega) hp w (row_reads ha (cells := Ag.cells) (size := 5) (e := 24) (c := ac) (n := ags.length) (fun _ => rfl) (InR.mem (A := aA)) rfl)).mono (fun e w' h => by obtain ⟨L, E, A', c', h1, h2, h3⟩ := h; exact ⟨(L, E, A', c'), h1, h2, h3⟩)) ?_
  rintro ⟨L1, E1, nA1, nc1⟩ hned
  dsimp only [List.cons_append, List.nil_append] at hned ⊢
  refine lst_move rfl rfl ?_
  refine lst_extract rfl rfl rfl ?_
  refine lst_extract rfl rfl rfl ?_
  refine lst_assign rfl rfl ?_
  refine lst_assign rfl rfl ?_
  refine lst_nil ?_
  refine ex_then ?_
  refine cod_seq ?_
  refine cod_region ?_
  refine lst_move rfl rfl ?_
  refine lst_move rfl rfl ?_
  refine lst_move rfl rfl ?_
  refine lst_fn (X := List Nat × Nat × Option Addr × Nat) (vs := [_, _, _]) (p := fun y => (y.2.1 = 0 ∧ Clr ags (usedAll ags.length) p m1 ∧ y.1 = (spoilL ags p m1 (canTo ags (usedAll ags.length) m1 ags.length)) ∨ y.2.1 = 11 ∧ ¬ Clr ags (usedAll ags.length) p m1 ∧ y.1 = [])) (val := fun y => .tuple #[.slice y.2.2.1 y.1.length y.2.2.2, .int .i64 (y.2.1 : Int)]) (rs := fun y => [.row 3 1 y.2.2.1 y.1.length y.2.2.2 (ints y.1)]) rfl rfl F.ent57 (fun a w ha => (Spoils_ok aA ac ags hok m1 p (by omega) hp w (row_reads ha (cells := Ag.cells) (size := 5) (e := 24) (c := ac) (n := ags.length) (fun _ => rfl) (InR.mem (A := aA)) rfl)).mono (fun e w' h => by obtain ⟨L, E, A', c', h1, h2, h3⟩ := h; exact ⟨(L, E, A', c'), h1, h2, h3⟩)) ?_
  rintro ⟨L2, E2, nA2, nc2⟩ hspo
  dsimp only [List.cons_append, List.nil_append] at hspo ⊢
  refine lst_move rfl rfl ?_
  refine lst_extract rfl rfl rfl ?_
  refine lst_extract rfl rfl rfl ?_
  refine lst_assign rfl rfl ?_
  refine lst_assign rfl rfl ?_
  refine lst_nil ?_
  refine ex_then ?_
  refine cod_seq ?_
  refine cod_region ?_
  refine lst_move rfl rfl ?_
  refine lst_move rfl rfl ?_
  refine lst_move rfl rfl ?_
  refine lst_fn (X := List Nat × Nat × Option Addr × Nat) (vs := [_, _, _]) (p := fun y => ShS ags p (m1) y.1 y.2.1) (val := fun y => .tuple #[.slice y.2.2.1 y.1.length y.2.2.2, .int .i64 (y.2.1 : Int)]) (rs := fun y => [.row 3 1 y.2.2.1 y.1.length y.2.2.2 (ints y.1)]) rfl rfl F.ent53 (fun a w ha => (Shortest_s aA ac ags hok (m1) p (by omega) hp w (row_reads ha (cells := Ag.cells) (size := 5) (e := 24) (c := ac) (n := ags.length) (fun _ => rfl) (InR.mem (A := aA)) rfl)).mono (fun e w' h => by obtain ⟨W, E, A', c', h1, h2, h3⟩ := h; exact ⟨(W, E, A', c'), h1, h2, h3⟩)) ?_
  rintro ⟨L3, E3, nA3, nc3⟩ hsho
  dsimp only [List.cons_append, List.nil_append] at hsho ⊢
  refine lst_move rfl rfl ?_
  refine lst_extract rfl rfl rfl ?_
  refine lst_extract rfl rfl rfl ?_
  refine lst_assign rfl rfl ?_
  refine lst_assign rfl rfl ?_
  refine lst_nil ?_
  refine ex_then ?_
  refine cod_seq ?_
  refine cod_seq ?_
  by_cases hclr : Clr ags (usedAll ags.length) p m1
  · skip
    refine cod_region ?_
    obtain ⟨rfl, _, rfl⟩ := hned.resolve_right (fun h => h.2.1 hclr)
    obtain ⟨rfl, _, rfl⟩ := hspo.resolve_right (fun h => h.2.1 hclr)
    obtain rfl := hsho.zero hclr
    have hnl : (needL ags p m1 ags.length).length ≤ 4 := by have := fltP_len (fun i => ¬ Clr ags (butN ags.length i) p m1) (List.range ags.length); rw [List.length_range] at this; have := hok.1; unfold needL; omega
    have hsl : (spoilL ags p m1 (canTo ags (usedAll ags.length) m1 ags.length)).length ≤ 4 := by have := fltP_len (fun i => ¬ Clr ags (usedAll ags.length) p (putN (ags.getD i default) m1)) (canTo ags (usedAll ags.length) m1 ags.length); have := canTo_len ags (usedAll ags.length) m1 ags.length; have := hok.1; unfold spoilL; omega
    refine lst_move rfl rfl ?_
    refine lst_move rfl rfl ?_
    refine lst_int rfl rfl rfl bin_neq ?_
    refine lst_move rfl rfl ?_
    refine lst_on rfl rfl ?_
    refine lst_move rfl rfl ?_
    refine lst_on rfl rfl ?_
    refine lst_move rfl rfl ?_
    refine lst_on rfl rfl ?_
    refine lst_int rfl rfl rfl bin_neq ?_
    refine lst_pick_false rfl rfl rfl ?_
    refine lst_move rfl rfl ?_
    refine lst_on rfl rfl ?_
    refine lst_move rfl rfl ?_
    refine lst_on rfl rfl ?_
    refine lst_int rfl rfl rfl bin_neq ?_
    refine lst_on rfl rfl ?_
    refine lst_move rfl rfl ?_
    refine lst_off rfl rfl rfl ?_
    refine lst_off rfl rfl rfl ?_
    refine lst_on rfl rfl ?_
    refine lst_pick_false rfl rfl rfl ?_
    refine lst_pick_false rfl rfl rfl ?_
    refine lst_nil ?_
    refine ex_then ?_
    refine cod_cond_false rfl ?_
    refine cod_skip ?_
    refine ex_then ?_
    refine cod_seq ?_
    refine cod_seq ?_
    refine cod_region ?_
    refine lst_move rfl rfl ?_
    refine lst_int rfl rfl rfl bin_neq ?_
    refine lst_nil ?_
    refine ex_then ?_
    refine cod_cond_false rfl ?_
    refine cod_skip ?_
    refine ex_then ?_
    refine cod_seq ?_
    refine cod_seq ?_
    refine cod_region ?_
    refine lst_assign rfl rfl ?_
    refine lst_nil ?_
    refine ex_then ?_
    refine cod_block ?_
    refine cod_loop' (G := Nat) (fun g => g ≤ ags.length) (fun g => ags.length - g) (fun g => [(4, .slice aA ags.length ac), (5, .int .i64 (m1 : Int)), (6, .int .i64 (p : Int)), (7, .slice nA1 (needL ags p m1 ags.length).length nc1), (9, .slice nA2 (spoilL ags p m1 (canTo ags (usedAll ags.length) m1 ags.length)).length nc2), (13, .int .i64 (g : Int))]) (fun g => .row 3 1 nA1 (needL ags p m1 ags.length).length nc1 (ints (needL ags p m1 ags.length)) :: .row 3 1 nA2 (spoilL ags p m1 (canTo ags (usedAll ags.length) m1 ags.length)).length nc2 (ints (spoilL ags p m1 (canTo ags (usedAll ags.length) m1 ags.length))) :: .row 24 5 aA ags.length ac (ags.flatMap Ag.cells) :: []) (0) (Nat.zero_le _) (by repeat (first | exact Sub.nil _ | refine Sub.cons rfl ?_)) (by repeat (first | exact Pck.nil _ | exact Pck.refl _ | (apply Pck.cons; focus ((repeat (first | exact Rem.here _ | apply Rem.there)); done)) | refine Pck.skip _ ?_)) ?_
    rintro i hil
    try dsimp only at hil ⊢
    refine cod_seq ?_
    refine cod_seq ?_
    refine cod_region ?_
    refine lst_move rfl rfl ?_
    refine lst_move rfl rfl ?_
    refine lst_len rfl rfl Tryd.underlying22 ?_
    refine lst_int rfl rfl rfl bin_lss ?_
    refine lst_nil ?_
    refine ex_then ?_
    refine cod_cond_dec rfl (fun hc2 => ?_) (fun hc2 => ?_)
    · skip
      have hi' : i < ags.length := by omega
      refine cod_know (φ := ∃ g, aA = some ⟨g, 0, none⟩) (fun a w ha => row_some (ha.own _ (InR.mem (A := aA))) (by omega)) (fun hgA => ?_)
      obtain ⟨gA, rfl⟩ := hgA
      have hip := putN_lt (agd_ok hok hi') (show m1 < 64 by omega)
      have h4 := hok.1
      refine cod_skip ?_
      refine ex_then ?_
      refine cod_seq ?_
      refine cod_block ?_
      refine cod_seq ?_
      refine cod_region ?_
      refine lst_assign rfl rfl ?_
      refine lst_nil ?_
      refine ex_then ?_
      refine cod_seq ?_
      refine cod_seq ?_
      refine cod_region ?_
      refine lst_assign rfl rfl ?_
      refine lst_nil ?_
      refine ex_then ?_
      refine cod_block ?_
      refine cod_nil 24 5 ?_
      refine cod_loop' (G := Nat × Option Addr × Nat) (fun g => g.1 ≤ ags.length) (fun g => ags.length - g.1) (fun g => [(4, .slice (some ⟨gA, 0, none⟩) ags.length ac), (5, .int .i64 (m1 : Int)), (6, .int .i64 (p : Int)), (7, .slice nA1 (needL ags p m1 ags.length).length nc1), (9, .slice nA2 (spoilL ags p m1 (canTo ags (usedAll ags.length) m1 ags.length)).length nc2), (13, .int .i64 (i : Int)), (14, .slice g.2.1 (othL ags i g.1).length g.2.2), (15, .int .i64 (g.1 : Int))]) (fun g => .row 24 5 g.2.1 (othL ags i g.1).length g.2.2 ((othL ags i g.1).flatMap Ag.cells) :: .row 3 1 nA1 (needL ags p m1 ags.length).length nc1 (ints (needL ags p m1 ags.length)) :: .row 3 1 nA2 (spoilL ags p m1 (canTo ags (usedAll ags.length) m1 ags.length)).length nc2 (ints (spoilL ags p m1 (canTo ags (usedAll ags.length) m1 ags.length))) :: .row 24 5 (some ⟨gA, 0, none⟩) ags.length ac (ags.flatMap Ag.cells) :: []) (0, none, 0) (Nat.zero_le _) (by repeat (first | exact Sub.nil _ | refine Sub.cons rfl ?_)) (by repeat (first | exact Pck.nil _ | exact Pck.refl _ | (apply Pck.cons; focus ((repeat (first | exact Rem.here _ | apply Rem.there)); done)) | refine Pck.skip _ ?_)) ?_
      rintro ⟨j, A1, c1⟩ hjl
      dsimp only at hjl ⊢
      refine cod_seq ?_
      refine cod_seq ?_
      refine cod_region ?_
      refine lst_move rfl rfl ?_
      refine lst_move rfl rfl ?_
      refine lst_len rfl rfl Tryd.underlying22 ?_
      refine lst_int rfl rfl rfl bin_lss ?_
      refine lst_nil ?_
      refine ex_then ?_
      refine cod_cond_dec rfl (fun hc3 => ?_) (fun hc3 => ?_)
      · skip
        have hj' : j < ags.length := by omega
        obtain ⟨x, hx⟩ : ∃ x, ags[j]? = some x := ⟨_, List.getElem?_eq_getElem hj'⟩
        have hxd : ags.getD j default = x := by rw [List.getD_eq_getElem?_getD, hx]; rfl
        have hol := othL_len ags i j
        refine cod_skip ?_
        refine ex_then ?_
        refine cod_seq ?_
        refine cod_block ?_
        refine cod_seq ?_
        refine cod_region ?_
        refine lst_move rfl rfl ?_
        refine lst_move rfl rfl ?_
        refine lst_int rfl rfl rfl bin_neq ?_
        refine lst_nil ?_
        refine ex_then ?_
        refine cod_cond_dec rfl (fun hc4 => ?_) (fun hc4 => ?_)
        · skip
          refine cod_region ?_
          refine lst_move rfl rfl ?_
          refine lst_move rfl rfl ?_
          refine lst_move rfl rfl ?_
          refine lst_index (j := j) rfl rfl rfl Tryd.underlying22 F.ti24 rfl hj' ?_
          refine lst_loadN_at (l := [.int .i64 (x.needs : Int), .int .i64 (x.no : Int), .int .i64 (x.takes : Int), .int .i64 (x.leaves : Int), .int .i64 (x.cost : Int)]) rfl rfl F.agg24 F.ti24 rfl (fun a w ha j u hu => row_at ha (e := 24) (n := ags.length) (c := ac) (cells := Ag.cells) (by simp) (fun _ => rfl) hx hu) ?_
          refine lst_litN (vs := [(0, _)]) [_, _, _, _, _] rfl rfl Tryd.underlying22 F.ti24 rfl rfl rfl ⟨rfl, [_, _, _, _, _], [], rfl, rfl, rfl, rfl⟩ ?_
          intro b99
          refine lst_append rfl rfl rfl Tryd.underlying22 F.ti24 rfl rfl rfl (by unfold maxLen; omega) (by omega) ?_
          intro A2 c2
          refine lst_assign rfl rfl ?_
          refine lst_nil ?_
          refine ex_block_normal ?_
          refine ex_then ?_
          refine cod_region ?_
          refine lst_move rfl rfl ?_
          refine lst_int rfl rfl rfl (fun w => bin_add w (wrap_i64' _ (by omega) (by omega))) ?_
          refine lst_assign rfl rfl ?_
          refine lst_nil ?_
          have e := othL_yes (ags := ags) hc4
          rw [hxd] at e
          refine ex_round' (j + 1, A2, c2) (by (try dsimp only); omega) (by (try dsimp only); omega) (by (try dsimp only); rw [e, List.length_append, List.length_singleton]; repeat (first | exact Sub.nil _ | refine Sub.cons rfl ?_)) (by (try dsimp only); rw [e, List.length_append, List.length_singleton, List.flatMap_append, List.flatMap_singleton]; repeat (first | exact Pck.nil _ | exact Pck.refl _ | (apply Pck.cons; focus ((repeat (first | exact Rem.here _ | apply Rem.there)); done)) | refine Pck.skip _ ?_))
        · skip
          refine cod_skip ?_
          refine ex_block_normal ?_
          refine ex_then ?_
          refine cod_region ?_
          refine lst_move rfl rfl ?_
          refine lst_int rfl rfl rfl (fun w => bin_add w (wrap_i64' _ (by omega) (by omega))) ?_
          refine lst_assign rfl rfl ?_
          refine lst_nil ?_
          have e := othL_no (ags := ags) hc4
          refine ex_round' (j + 1, A1, c1) (by (try dsimp only); omega) (by (try dsimp only); omega) (by (try dsimp only); rw [e]; repeat (first | exact Sub.nil _ | refine Sub.cons rfl ?_)) (by (try dsimp only); rw [e]; repeat (first | exact Pck.nil _ | exact Pck.refl _ | (apply Pck.cons; focus ((repeat (first | exact Rem.here _ | apply Rem.there)); done)) | refine Pck.skip _ ?_))
      · skip
        obtain rfl : j = ags.length := by omega
        have hoko := othL_ok (i := i) hok
        refine cod_exit ?_
        refine ex_then_exit ?_
        refine ex_then_exit ?_
        refine ex_block_exit ?_
        refine ex_then ?_
        refine cod_seq ?_
        refine cod_region ?_
        refine lst_move rfl rfl ?_
        refine lst_move rfl rfl ?_
        refine lst_move rfl rfl ?_
        refine lst_fn (X := List Nat × Nat × Option Addr × Nat) (vs := [_, _, _]) (p := fun y => ShS (othL ags i ags.length) p (m1) y.1 y.2.1) (val := fun y => .tuple #[.slice y.2.2.1 y.1.length y.2.2.2, .int .i64 (y.2.1 : Int)]) (rs := fun y => [.row 3 1 y.2.2.1 y.1.length y.2.2.2 (ints y.1)]) rfl rfl F.ent53 (fun a w ha => (Shortest_s A1 c1 (othL ags i ags.length) hoko (m1) p (by omega) hp w (row_reads ha (cells := Ag.cells) (size := 5) (e := 24) (c := c1) (n := (othL ags i ags.length).length) (fun _ => rfl) (InR.mem (A := A1)) rfl)).mono (fun e w' h => by obtain ⟨W, E, A', c', h1, h2, h3⟩ := h; exact ⟨(W, E, A', c'), h1, h2, h3⟩)) ?_
        rintro ⟨W4, E4, wA4, wc4⟩ hsh4
        dsimp only [List.cons_append, List.nil_append] at hsh4 ⊢
        refine lst_move rfl rfl ?_
        refine lst_extract rfl rfl rfl ?_
        refine lst_extract rfl rfl rfl ?_
        refine lst_assign rfl rfl ?_
        refine lst_assign rfl rfl ?_
        refine lst_nil ?_
        refine ex_then ?_
        refine cod_seq ?_
        refine cod_seq ?_
        refine cod_region ?_
        refine lst_move rfl rfl ?_
        refine lst_int rfl rfl rfl bin_eql ?_
        refine lst_move rfl rfl ?_
        refine lst_move rfl rfl ?_
        refine lst_fn0 (v := .int .i64 (findL ((needL ags p m1 ags.length).map fun (n : Nat) => (n : Int)) (i : Int))) (vs := [_, _]) rfl rfl F.ent42 (fun a w ha => by
          have h := Find_c nA1 nc1 ((needL ags p m1 ags.length).map fun (n : Nat) => (n : Int)) (i : Int) (by rw [List.length_map]; omega) w (RdL.cast (row_reads ha (cells := ncell) (size := 1) (e := 3) (c := nc1) (n := (needL ags p m1 ags.length).length) (fun _ => rfl) (by rw [← ints_flat]; exact InR.mem (A := nA1)) rfl))
          rw [List.length_map] at h
          exact h) ?_
        refine lst_int rfl rfl rfl bin_geq ?_
        refine lst_bin (v := .bool false) rfl rfl rfl (fun w => (run_eqb Tryd.underlying4 _ _ _ _ w).trans (by rw [need_eq hi' hsh4])) ?_
        refine lst_nil ?_
        refine ex_then ?_
        refine cod_cond_false rfl ?_
        refine cod_skip ?_
        refine ex_then ?_
        refine cod_seq ?_
        refine cod_region ?_
        refine lst_assign rfl rfl ?_
        refine lst_nil ?_
        refine ex_then ?_
        refine cod_seq ?_
        refine cod_seq ?_
        refine cod_region ?_
        refine lst_move rfl rfl ?_
        refine lst_move rfl rfl ?_
        refine lst_move rfl rfl ?_
        refine lst_lit (vs := [(0, _)]) rfl rfl Tryd.underlying25 F.ti3 rfl rfl rfl ?_
        intro b119
        refine lst_fn0 (v := .tuple #[.int .i64 ((if mayN (ags.getD i default) m1 = true then putN (ags.getD i default) m1 else 0 : Nat) : Int), .bool (mayN (ags.getD i default) m1)]) (vs := [_, _, _]) rfl rfl F.ent36 (fun a w ha => (follows_c (some ⟨gA, 0, none⟩) (some ⟨b119, 0, none⟩) ac 1 m1 ags [i] hok (by omega) (by simp) w (row_reads ha (cells := Ag.cells) (size := 5) (e := 24) (c := ac) (n := ags.length) (fun _ => rfl) (InR.mem (A := (some ⟨gA, 0, none⟩))) rfl) (blk_reads ha (cells := ncell) (size := 1) (b := b119) (l := [i]) (fun _ => rfl) rfl)).mono (fun e w' h => ⟨h.1.trans (by rw [follow_one1 hi', follow_one2 hi']), h.2⟩)) ?_
        refine lst_move rfl rfl ?_
        refine lst_extract rfl rfl rfl ?_
        refine lst_extract rfl rfl rfl ?_
        refine lst_assign rfl rfl ?_
        refine lst_assign rfl rfl ?_
        refine lst_nil ?_
        refine ex_then ?_
        refine cod_seq ?_
        refine cod_region ?_
        refine lst_move rfl rfl ?_
        refine lst_nil ?_
        refine ex_then ?_
        refine cod_cond_bool rfl (fun hc6 => ?_) (fun hc6 => ?_)
        · skip
          rw [if_pos hc6]
          refine cod_seq ?_
          refine cod_region ?_
          refine lst_move rfl rfl ?_
          refine lst_move rfl rfl ?_
          refine lst_move rfl rfl ?_
          refine lst_fn (X := List Nat × Nat × Option Addr × Nat) (vs := [_, _, _]) (p := fun y => ShS ags p (putN (ags.getD i default) m1) y.1 y.2.1) (val := fun y => .tuple #[.slice y.2.2.1 y.1.length y.2.2.2, .int .i64 (y.2.1 : Int)]) (rs := fun y => [.row 3 1 y.2.2.1 y.1.length y.2.2.2 (ints y.1)]) rfl rfl F.ent53 (fun a w ha => (Shortest_s (some ⟨gA, 0, none⟩) ac ags hok (putN (ags.getD i default) m1) p hip hp w (row_reads ha (cells := Ag.cells) (size := 5) (e := 24) (c := ac) (n := ags.length) (fun _ => rfl) (InR.mem (A := (some ⟨gA, 0, none⟩))) rfl)).mono (fun e w' h => by obtain ⟨W, E, A', c', h1, h2, h3⟩ := h; exact ⟨(W, E, A', c'), h1, h2, h3⟩)) ?_
          rintro ⟨W5, E5, wA5, wc5⟩ hsh5
          dsimp only [List.cons_append, List.nil_append] at hsh5 ⊢
          refine lst_move rfl rfl ?_
          refine lst_extract rfl rfl rfl ?_
          refine lst_extract rfl rfl rfl ?_
          refine lst_assign rfl rfl ?_
          refine lst_assign rfl rfl ?_
          refine lst_nil ?_
          refine ex_then ?_
          refine cod_region ?_
          refine lst_move rfl rfl ?_
          refine lst_int rfl rfl rfl bin_neq ?_
          refine lst_assign rfl rfl ?_
          refine lst_nil ?_
          refine ex_then ?_
          refine cod_seq ?_
          refine cod_region ?_
          refine lst_move rfl rfl ?_
          refine lst_move rfl rfl ?_
          refine lst_move rfl rfl ?_
          refine lst_fn0 (v := .int .i64 (findL ((spoilL ags p m1 (canTo ags (usedAll ags.length) m1 ags.length)).map fun (n : Nat) => (n : Int)) (i : Int))) (vs := [_, _]) rfl rfl F.ent42 (fun a w ha => by
            have h := Find_c nA2 nc2 ((spoilL ags p m1 (canTo ags (usedAll ags.length) m1 ags.length)).map fun (n : Nat) => (n : Int)) (i : Int) (by rw [List.length_map]; omega) w (RdL.cast (row_reads ha (cells := ncell) (size := 1) (e := 3) (c := nc2) (n := (spoilL ags p m1 (canTo ags (usedAll ags.length) m1 ags.length)).length) (fun _ => rfl) (by rw [← ints_flat]; exact InR.mem (A := nA2)) rfl))
            rw [List.length_map] at h
            exact h) ?_
          refine lst_int rfl rfl rfl bin_geq ?_
          refine lst_bin (v := .bool false) rfl rfl rfl (fun w => (run_neq_bool Tryd.underlying4 _ _ _ _ w).trans (by rw [spoil_eq hi' hc6 hsh5])) ?_
          refine lst_nil ?_
          refine ex_then ?_
          refine cod_cond_false rfl ?_
          refine cod_skip ?_
          refine ex_block_normal ?_
          refine ex_then ?_
          refine cod_region ?_
          refine lst_move rfl rfl ?_
          refine lst_int rfl rfl rfl (fun w => bin_add w (wrap_i64' _ (by omega) (by omega))) ?_
          refine lst_assign rfl rfl ?_
          refine lst_nil ?_
          refine ex_round' (i + 1) (by (try dsimp only); omega) (by (try dsimp only); omega) (by repeat (first | exact Sub.nil _ | refine Sub.cons rfl ?_)) (by repeat (first | exact Pck.nil _ | exact Pck.refl _ | (apply Pck.cons; focus ((repeat (first | exact Rem.here _ | apply Rem.there)); done)) | refine Pck.skip _ ?_))
        · skip
          refine cod_skip ?_
          refine ex_then ?_
          refine cod_seq ?_
          refine cod_region ?_
          refine lst_move rfl rfl ?_
          refine lst_move rfl rfl ?_
          refine lst_move rfl rfl ?_
          refine lst_fn0 (v := .int .i64 (findL ((spoilL ags p m1 (canTo ags (usedAll ags.length) m1 ags.length)).map fun (n : Nat) => (n : Int)) (i : Int))) (vs := [_, _]) rfl rfl F.ent42 (fun a w ha => by
            have h := Find_c nA2 nc2 ((spoilL ags p m1 (canTo ags (usedAll ags.length) m1 ags.length)).map fun (n : Nat) => (n : Int)) (i : Int) (by rw [List.length_map]; omega) w (RdL.cast (row_reads ha (cells := ncell) (size := 1) (e := 3) (c := nc2) (n := (spoilL ags p m1 (canTo ags (usedAll ags.length) m1 ags.length)).length) (fun _ => rfl) (by rw [← ints_flat]; exact InR.mem (A := nA2)) rfl))
            rw [List.length_map] at h
            exact h) ?_
          refine lst_int rfl rfl rfl bin_geq ?_
          refine lst_bin (v := .bool false) rfl rfl rfl (fun w => (run_neq_bool Tryd.underlying4 _ _ _ _ w).trans (by rw [spoil_eq' hc6])) ?_
          refine lst_nil ?_
          refine ex_then ?_
          refine cod_cond_false rfl ?_
          refine cod_skip ?_
          refine ex_block_normal ?_
          refine ex_then ?_
          refine cod_region ?_
          refine lst_move rfl rfl ?_
          refine lst_int rfl rfl rfl (fun w => bin_add w (wrap_i64' _ (by omega) (by omega))) ?_
          refine lst_assign rfl rfl ?_
          refine lst_nil ?_
          refine ex_round' (i + 1) (by (try dsimp only); omega) (by (try dsimp only); omega) (by repeat (first | exact Sub.nil _ | refine Sub.cons rfl ?_)) (by repeat (first | exact Pck.nil _ | exact Pck.refl _ | (apply Pck.cons; focus ((repeat (first | exact Rem.here _ | apply Rem.there)); done)) | refine Pck.skip _ ?_))
    · skip
      refine cod_exit ?_
      refine ex_then_exit ?_
      refine ex_then_exit ?_
      refine ex_block_exit ?_
      refine ex_then ?_
      refine cod_seq ?_
      refine cod_region ?_
      refine lst_fn0 (vs := []) rfl rfl F.ent21 (fun a w ha => fined_c w) ?_
      refine lst_assign rfl rfl ?_
      refine lst_nil ?_
      refine ex_then ?_
      refine cod_ret ?_
      exact ex_ret rfl (fun a w ha => res_one rfl rfl ha) (fun a w ha => ⟨rfl, ha.grown (List.nil_sublist _)⟩)
  · skip
    refine cod_region ?_
    obtain ⟨rfl, _, rfl⟩ := hned.resolve_left (fun h => hclr h.2.1)
    obtain ⟨rfl, _, rfl⟩ := hspo.resolve_left (fun h => hclr h.2.1)
    obtain rfl : E3 = 11 := (hsho.no (fun h => hclr (hsho.iff.1 h))).1
    refine lst_move rfl rfl ?_
    refine lst_move rfl rfl ?_
    refine lst_int rfl rfl rfl bin_neq ?_
    refine lst_move rfl rfl ?_
    refine lst_on rfl rfl ?_
    refine lst_move rfl rfl ?_
    refine lst_on rfl rfl ?_
    refine lst_move rfl rfl ?_
    refine lst_on rfl rfl ?_
    refine lst_int rfl rfl rfl bin_neq ?_
    refine lst_pick_false rfl rfl rfl ?_
    refine lst_move rfl rfl ?_
    refine lst_on rfl rfl ?_
    refine lst_move rfl rfl ?_
    refine lst_on rfl rfl ?_
    refine lst_int rfl rfl rfl bin_neq ?_
    refine lst_on rfl rfl ?_
    refine lst_move rfl rfl ?_
    refine lst_on rfl rfl ?_
    refine lst_move rfl rfl ?_
    refine lst_on rfl rfl ?_
    refine lst_int rfl rfl rfl bin_neq ?_
    refine lst_on rfl rfl ?_
    refine lst_pick_true rfl rfl rfl ?_
    refine lst_pick_false rfl rfl rfl ?_
    refine lst_nil ?_
    refine ex_then ?_
    refine cod_cond_false rfl ?_
    refine cod_skip ?_
    refine ex_then ?_
    refine cod_seq ?_
    refine cod_seq ?_
    refine cod_region ?_
    refine lst_move rfl rfl ?_
    refine lst_int rfl rfl rfl bin_neq ?_
    refine lst_nil ?_
    refine ex_then ?_
    refine cod_cond_true rfl ?_
    refine cod_seq ?_
    refine cod_region ?_
    refine lst_move rfl rfl ?_
    refine lst_len rfl rfl Tryd.underlying25 ?_
    refine lst_move rfl rfl ?_
    refine lst_len rfl rfl Tryd.underlying25 ?_
    refine lst_int rfl rfl rfl (fun w => bin_add w (show IntKind.i64.wrap _ = 0 from rfl)) ?_
    refine lst_int rfl rfl rfl bin_eql ?_
    refine lst_move rfl rfl ?_
    refine lst_on rfl rfl ?_
    refine lst_fn0 (vs := []) rfl rfl F.ent21 (fun a w ha => fined_c w) ?_
    refine lst_pick_true rfl rfl rfl ?_
    refine lst_assign rfl rfl ?_
    refine lst_nil ?_
    refine ex_then ?_
    refine cod_ret ?_
    refine ex_then_ret ?_
    exact ex_ret rfl (fun a w ha => res_one rfl rfl ha) (fun a w ha => ⟨rfl, ha.grown (List.nil_sublist _)⟩)

end Go.Proofs.YtofkhehcnfiopaaDoor.N
