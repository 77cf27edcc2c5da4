/- Parts of the walks of the laws on fining, those that FiningKnown needs: First2, F12, Hat2, Kit, Kit2, Kit3, Both5, TellsP, Opt2, F19, Ch, Clr, Clr2, RchP, M1, M2, M3, M4, M5, M6, M7, M8, M9, M10. -/
import Derived.Test.YtofkhehcnfiopaaDoorSFiningKnown04
import Derived.Test.YtofkhehcnfiopaaDoorProg
import Derived.Test.YtofkhehcnfiopaaDoorSFiningKnown03
import Derived.Conc.CrowdComm
import Derived.Conc.Beside
import Derived.Conc.TokenTrace
namespace Go.Proofs.YtofkhehcnfiopaaDoor.N
open Go Go.RowKit Go.Proofs
set_option linter.unusedSectionVars false
variable [I : Sys]
def farTL (ws : Nat → List Nat) : Nat → Nat × Nat
  | 0 => (0, 0)
  | k + 1 => if (farTL ws k).2 < (ws k).length then (k, (ws k).length) else farTL ws k
theorem farL_table {os : Nat → Option Wk} {ws : Nat → List Nat} : ∀ k, (∀ f, f < k → ∃ x, os f = some x ∧ x.how = ws f) → farL os k = farTL ws k
  | 0, _ => rfl
  | k + 1, h => by
    have ih := farL_table k (fun f hf => h f (by omega))
    obtain ⟨x, hx, hw⟩ := h k (by omega)
    unfold farL farTL
    rw [ih, hx]
    by_cases hc : (farTL ws k).2 < (ws k).length
    · rw [if_pos hc, if_pos (by simp [wayO, hw]; omega)]
      simp [wayO, hw]
    · rw [if_neg hc, if_neg (by simp [wayO, hw]; omega)]
def farW (f : Nat) : List Nat := [[], [0, 1], [1], [0, 1], [2, 0, 1], [0, 3], [3], [0, 3]].getD (f % 8) []
theorem ex_farW : ∀ f, f < 64 → firstB sAgs 15 1 (-1) (f, 0, 0) (fun t => decide (nn t.1 56 = 0)) (farW f) = true := by decide +kernel
theorem ex_far : farTL farW 64 = (4, 3) := by decide +kernel
end Go.Proofs.YtofkhehcnfiopaaDoor.N
namespace Go.Proofs.YtofkhehcnfiopaaDoor.N
open Go Go.RowKit Go.Proofs
set_option linter.unusedSectionVars false
variable [I : Sys]
theorem F.ent28 : Enters Tryd.prog 28 := enters_of Tryd.func28 rfl (by kernel_rfl)
theorem F.ent30 : Enters Tryd.prog 30 := enters_of Tryd.func30 rfl (by kernel_rfl)
theorem F.ent32 : Enters Tryd.prog 32 := enters_of Tryd.func32 rfl (by kernel_rfl)
theorem F.ent35 : Enters Tryd.prog 35 := enters_of Tryd.func35 rfl (by kernel_rfl)
theorem F.ent40 : Enters Tryd.prog 40 := enters_of Tryd.func40 rfl (by kernel_rfl)
theorem F.ent53 : Enters Tryd.prog 53 := enters_of Tryd.func53 rfl (by kernel_rfl)
theorem F.ent54 : Enters Tryd.prog 54 := enters_of Tryd.func54 rfl (by kernel_rfl)
theorem F.ent71 : Enters Tryd.prog 71 := enters_of Tryd.func71 rfl (by kernel_rfl)
theorem fined_c  (w : World) : Calls Tryd.prog 21 #[] w fun e w' => e = .returned (.bool true) ∧ Grew w w' [] := by
  refine enter (N := 108) [] Tryd.func21 rfl Tryd.ntmps21 rfl rfl ?_
  refine cod_seq ?_
  refine cod_region ?_
  refine lst_assign rfl rfl ?_
  refine lst_nil ?_
  refine ex_then ?_
  refine cod_seq ?_
  refine cod_region ?_
  refine lst_fn (X := Nat) (vs := []) (p := fun _ => True) (val := fun b => .slice (some ⟨b, 0, none⟩) 4 4) (rs := fun b => [.blk b (.cells (sAgs.flatMap Ag.cells).toArray 24 (0, 0))]) rfl rfl F.ent71 (fun a w ha => (s_c w).mono (fun e w' h => by obtain ⟨b, h1, h2⟩ := h; exact ⟨b, trivial, h1, h2⟩)) ?_
  intro s1 _
  dsimp only [List.cons_append, List.nil_append]
  refine lst_lit (vs := [(0, _), (1, _), (2, _)]) rfl rfl Tryd.underlying25 F.ti3 rfl rfl rfl ?_
  intro b17
  refine lst_fn (X := Option Addr × Nat) (vs := [_, _, _]) (p := fun _ => True) (val := fun x => .tuple #[.slice x.1 3 x.2, .int .i64 0]) (rs := fun x => [.row 3 1 x.1 3 x.2 (ints [3, 2, 0])]) rfl rfl F.ent40 (fun a w ha => by
    exact (Put_ok (some ⟨s1, 0, none⟩) 4 sAgs sOks (some ⟨b17, 0, none⟩) 3 7 [2, 0, 1] [3, 2, 0] (by decide) (by decide) ex_put w (blk_reads ha (cells := Ag.cells) (size := 5) (b := s1) (l := sAgs) (fun _ => rfl) rfl) (blk_reads ha (cells := ncell) (size := 1) (b := b17) (l := [2, 0, 1]) (fun _ => rfl) rfl)).mono (fun e w' h => by obtain ⟨A', c', h1, h2⟩ := h; exact ⟨(A', c'), trivial, h1, h2⟩)) ?_
  rintro ⟨A1, c1⟩ -
  dsimp only [List.cons_append, List.nil_append]
  refine lst_move rfl rfl ?_
  refine lst_extract rfl rfl rfl ?_
  refine lst_extract rfl rfl rfl ?_
  refine lst_assign rfl rfl ?_
  refine lst_assign rfl rfl ?_
  refine lst_nil ?_
  refine ex_then ?_
  refine cod_seq ?_
  refine cod_region ?_
  refine lst_fn (X := Nat) (vs := []) (p := fun _ => True) (val := fun b => .slice (some ⟨b, 0, none⟩) 4 4) (rs := fun b => [.blk b (.cells (sAgs.flatMap Ag.cells).toArray 24 (0, 0))]) rfl rfl F.ent71 (fun a w ha => (s_c w).mono (fun e w' h => by obtain ⟨b, h1, h2⟩ := h; exact ⟨b, trivial, h1, h2⟩)) ?_
  intro s2 _
  dsimp only [List.cons_append, List.nil_append]
  refine lst_fn (X := Option Addr × Nat) (vs := [_, _, _]) (p := fun _ => True) (val := fun x => .tuple #[.slice x.1 2 x.2, .int .i64 0]) (rs := fun x => [.row 3 1 x.1 2 x.2 (ints [0, 3])]) rfl rfl F.ent53 (fun a w ha => by
    exact (Shortest_ok (some ⟨s2, 0, none⟩) 4 sAgs sOks 7 0 (by decide) (by decide) w (blk_reads ha (cells := Ag.cells) (size := 5) (b := s2) (l := sAgs) (fun _ => rfl) rfl)).mono (fun e w' h => by obtain ⟨o, h1, h2, h3⟩ := h; obtain ⟨k, rfl, hk⟩ := found_firstB (show FoundO sAgs 15 1 (-1) (7, 0, 0) (fun t => decide (nn t.1 0 = 0)) o from h1) (by decide) ex_short; exact ⟨(k.A, k.c), trivial, by rw [h2]; simp [wayO, hk], by simpa [wayO, hk] using h3⟩)) ?_
  rintro ⟨A2, c2⟩ -
  dsimp only [List.cons_append, List.nil_append]
  refine lst_move rfl rfl ?_
  refine lst_extract rfl rfl rfl ?_
  refine lst_extract rfl rfl rfl ?_
  refine lst_assign rfl rfl ?_
  refine lst_assign rfl rfl ?_
  refine lst_nil ?_
  refine ex_then ?_
  refine cod_seq ?_
  refine cod_region ?_
  refine lst_fn (X := Nat) (vs := []) (p := fun _ => True) (val := fun b => .slice (some ⟨b, 0, none⟩) 4 4) (rs := fun b => [.blk b (.cells (sAgs.flatMap Ag.cells).toArray 24 (0, 0))]) rfl rfl F.ent71 (fun a w ha => (s_c w).mono (fun e w' h => by obtain ⟨b, h1, h2⟩ := h; exact ⟨b, trivial, h1, h2⟩)) ?_
  intro s3 _
  dsimp only [List.cons_append, List.nil_append]
  refine lst_fn (X := Option Addr × Nat) (vs := [_, _, _]) (p := fun _ => True) (val := fun x => .tuple #[.slice x.1 3 x.2, .int .i64 4, .int .i64 0]) (rs := fun x => [.row 3 1 x.1 3 x.2 (ints [2, 0, 1])]) rfl rfl F.ent35 (fun a w ha => by
    exact (Cheapest_ok (some ⟨s3, 0, none⟩) 4 sAgs sOks 7 0 4 (by decide) (by decide) (by decide) ex_cheapN w (blk_reads ha (cells := Ag.cells) (size := 5) (b := s3) (l := sAgs) (fun _ => rfl) rfl)).mono (fun e w' h => by obtain ⟨j, ps, A', c', h0, h1, h2, h3, h4⟩ := h; subst h1; obtain ⟨e1, e2, e3⟩ := ex_cheap j h0 h2; rw [show usedAll sAgs.length = 15 from rfl, e1, e2, e3] at h3; rw [show usedAll sAgs.length = 15 from rfl, e1] at h4; exact ⟨(A', c'), trivial, h3, h4⟩)) ?_
  rintro ⟨A3, c3⟩ -
  dsimp only [List.cons_append, List.nil_append]
  refine lst_move rfl rfl ?_
  refine lst_extract rfl rfl rfl ?_
  refine lst_extract rfl rfl rfl ?_
  refine lst_extract rfl rfl rfl ?_
  refine lst_assign rfl rfl ?_
  refine lst_assign rfl rfl ?_
  refine lst_assign rfl rfl ?_
  refine lst_nil ?_
  refine ex_then ?_
  refine cod_seq ?_
  refine cod_region ?_
  refine lst_fn (X := Nat) (vs := []) (p := fun _ => True) (val := fun b => .slice (some ⟨b, 0, none⟩) 4 4) (rs := fun b => [.blk b (.cells (sAgs.flatMap Ag.cells).toArray 24 (0, 0))]) rfl rfl F.ent71 (fun a w ha => (s_c w).mono (fun e w' h => by obtain ⟨b, h1, h2⟩ := h; exact ⟨b, trivial, h1, h2⟩)) ?_
  intro s4 _
  dsimp only [List.cons_append, List.nil_append]
  refine lst_fn0 (v := .tuple #[.int .i64 4, .int .i64 3, .int .i64 0]) (vs := [_, _]) rfl rfl F.ent54 (fun a w ha => by
    exact (Farthest_ok (some ⟨s4, 0, none⟩) 4 sAgs sOks 56 (by decide) w (blk_reads ha (cells := Ag.cells) (size := 5) (b := s4) (l := sAgs) (fun _ => rfl) rfl)).mono (fun e w' h => by obtain ⟨os, h1, h2, h3⟩ := h; rw [farL_table 64 (fun f hf => found_firstB (show FoundO sAgs 15 1 (-1) (f, 0, 0) (fun t => decide (nn t.1 56 = 0)) (os f) from h1 f hf) (by decide) (ex_farW f hf)), ex_far] at h2; exact ⟨h2, h3⟩)) ?_
  refine lst_move rfl rfl ?_
  refine lst_extract rfl rfl rfl ?_
  refine lst_extract rfl rfl rfl ?_
  refine lst_extract rfl rfl rfl ?_
  refine lst_assign rfl rfl ?_
  refine lst_assign rfl rfl ?_
  refine lst_assign rfl rfl ?_
  refine lst_nil ?_
  refine ex_then ?_
  refine cod_seq ?_
  refine cod_region ?_
  refine lst_fn (X := Nat) (vs := []) (p := fun _ => True) (val := fun b => .slice (some ⟨b, 0, none⟩) 4 4) (rs := fun b => [.blk b (.cells (sAgs.flatMap Ag.cells).toArray 24 (0, 0))]) rfl rfl F.ent71 (fun a w ha => (s_c w).mono (fun e w' h => by obtain ⟨b, h1, h2⟩ := h; exact ⟨b, trivial, h1, h2⟩)) ?_
  intro s5 _
  dsimp only [List.cons_append, List.nil_append]
  refine lst_lit (vs := [(0, _), (1, _)]) rfl rfl Tryd.underlying25 F.ti3 rfl rfl rfl ?_
  intro b40
  refine lst_fn (X := Option Addr × Nat) (vs := [_, _, _]) (p := fun _ => True) (val := fun x => .tuple #[.slice x.1 2 x.2, .int .i64 0]) (rs := fun x => [.row 3 1 x.1 2 x.2 (ints [0, 1])]) rfl rfl F.ent28 (fun a w ha => by
    exact (Both_ok (some ⟨s5, 0, none⟩) 4 sAgs sOks (some ⟨b40, 0, none⟩) 2 [1, 3] 0 (by decide) (by decide) (by decide) (by decide) w (blk_reads ha (cells := Ag.cells) (size := 5) (b := s5) (l := sAgs) (fun _ => rfl) rfl) (blk_reads ha (cells := ncell) (size := 1) (b := b40) (l := [1, 3]) (fun _ => rfl) rfl)).mono (fun e w' h => by obtain ⟨o, h1, h2, h3⟩ := h; obtain ⟨k, rfl, hk⟩ := found_firstB (show FoundO sAgs 15 2 5 (1, 3, 0) (fun t => clearT 0 t 2) o from h1) (by decide) ex_both; exact ⟨(k.A, k.c), trivial, by rw [h2]; simp [wayO, hk], by simpa [wayO, hk] using h3⟩)) ?_
  rintro ⟨A5, c5⟩ -
  dsimp only [List.cons_append, List.nil_append]
  refine lst_move rfl rfl ?_
  refine lst_extract rfl rfl rfl ?_
  refine lst_extract rfl rfl rfl ?_
  refine lst_assign rfl rfl ?_
  refine lst_assign rfl rfl ?_
  refine lst_nil ?_
  refine ex_then ?_
  refine cod_seq ?_
  refine cod_region ?_
  refine lst_fn (X := Nat) (vs := []) (p := fun _ => True) (val := fun b => .slice (some ⟨b, 0, none⟩) 4 4) (rs := fun b => [.blk b (.cells (sAgs.flatMap Ag.cells).toArray 24 (0, 0))]) rfl rfl F.ent71 (fun a w ha => (s_c w).mono (fun e w' h => by obtain ⟨b, h1, h2⟩ := h; exact ⟨b, trivial, h1, h2⟩)) ?_
  intro s6 _
  dsimp only [List.cons_append, List.nil_append]
  refine lst_fn (X := Option Addr × Nat) (vs := [_, _, _]) (p := fun _ => True) (val := fun x => .tuple #[.slice x.1 1 x.2, .int .i64 0]) (rs := fun x => [.row 3 1 x.1 1 x.2 (ints [1])]) rfl rfl F.ent30 (fun a w ha => by
    exact (Tells_ok (some ⟨s6, 0, none⟩) 4 sAgs sOks 2 6 (by decide) (by decide) w (blk_reads ha (cells := Ag.cells) (size := 5) (b := s6) (l := sAgs) (fun _ => rfl) rfl)).mono (fun e w' h => by obtain ⟨o, A', c', h1, h2, h3⟩ := h; obtain ⟨k, rfl, hk⟩ := found_firstB (show FoundO sAgs 15 2 4 (2, 6, 0) (tellsG sAgs) o from h1) (by decide) ex_tells; have ht : k.team = (2, 6, 0) := (by have h4 := h1.2.1; rw [hk] at h4; exact (Option.some.inj h4).symm); have hl : tellsL sAgs (some k) = [1] := (by simp only [tellsL, hk, ht, ex_tellsI, List.nil_append]); rw [hl] at h2 h3; exact ⟨(A', c'), trivial, by rw [h2]; rfl, h3⟩)) ?_
  rintro ⟨A6, c6⟩ -
  dsimp only [List.cons_append, List.nil_append]
  refine lst_move rfl rfl ?_
  refine lst_extract rfl rfl rfl ?_
  refine lst_extract rfl rfl rfl ?_
  refine lst_assign rfl rfl ?_
  refine lst_assign rfl rfl ?_
  refine lst_nil ?_
  refine ex_then ?_
  refine cod_seq ?_
  refine cod_region ?_
  refine lst_move rfl rfl ?_
  refine lst_int rfl rfl rfl bin_eql ?_
  refine lst_move rfl rfl ?_
  refine lst_on rfl rfl ?_
  refine lst_move rfl rfl ?_
  refine lst_on rfl rfl ?_
  refine lst_int rfl rfl rfl bin_eql ?_
  refine lst_pick_true rfl rfl rfl ?_
  refine lst_move rfl rfl ?_
  refine lst_on rfl rfl ?_
  refine lst_move rfl rfl ?_
  refine lst_on rfl rfl ?_
  refine lst_int rfl rfl rfl bin_eql ?_
  refine lst_pick_true rfl rfl rfl ?_
  refine lst_move rfl rfl ?_
  refine lst_on rfl rfl ?_
  refine lst_move rfl rfl ?_
  refine lst_on rfl rfl ?_
  refine lst_int rfl rfl rfl bin_eql ?_
  refine lst_pick_true rfl rfl rfl ?_
  refine lst_move rfl rfl ?_
  refine lst_on rfl rfl ?_
  refine lst_move rfl rfl ?_
  refine lst_on rfl rfl ?_
  refine lst_int rfl rfl rfl bin_eql ?_
  refine lst_pick_true rfl rfl rfl ?_
  refine lst_move rfl rfl ?_
  refine lst_on rfl rfl ?_
  refine lst_move rfl rfl ?_
  refine lst_on rfl rfl ?_
  refine lst_int rfl rfl rfl bin_eql ?_
  refine lst_pick_true rfl rfl rfl ?_
  refine lst_move rfl rfl ?_
  refine lst_on rfl rfl ?_
  refine lst_move rfl rfl ?_
  refine lst_on rfl rfl ?_
  refine lst_int rfl rfl rfl bin_eql ?_
  refine lst_pick_true rfl rfl rfl ?_
  refine lst_move rfl rfl ?_
  refine lst_on rfl rfl ?_
  refine lst_move rfl rfl ?_
  refine lst_on rfl rfl ?_
  refine lst_int rfl rfl rfl bin_eql ?_
  refine lst_pick_true rfl rfl rfl ?_
  refine lst_move rfl rfl ?_
  refine lst_on rfl rfl ?_
  refine lst_move rfl rfl ?_
  refine lst_on rfl rfl ?_
  refine lst_int rfl rfl rfl bin_eql ?_
  refine lst_pick_true rfl rfl rfl ?_
  refine lst_move rfl rfl ?_
  refine lst_on rfl rfl ?_
  refine lst_move rfl rfl ?_
  refine lst_on rfl rfl ?_
  refine lst_lit (vs := [(0, _), (1, _), (2, _)]) rfl rfl Tryd.underlying25 F.ti3 rfl rfl rfl ?_
  intro b85
  refine lst_on rfl rfl ?_
  refine lst_fn0 (v := .bool true) (vs := [_, _]) rfl rfl F.ent32 (fun a w ha => (eqInts_c A1 (some ⟨b85, 0, none⟩) c1 3 [3, 2, 0] [3, 2, 0] (by decide) w (row_reads ha (cells := icell) (size := 1) (e := 3) (c := c1) (n := 3) (l := [3, 2, 0]) (fun _ => rfl) (InR.mem (A := A1)) rfl) (blk_reads ha (cells := icell) (size := 1) (b := b85) (l := [3, 2, 0]) (fun _ => rfl) rfl)).mono (fun e w' h => ⟨h.1.trans (by simp), h.2⟩)) ?_
  refine lst_pick_true rfl rfl rfl ?_
  refine lst_move rfl rfl ?_
  refine lst_on rfl rfl ?_
  refine lst_move rfl rfl ?_
  refine lst_on rfl rfl ?_
  refine lst_lit (vs := [(0, _), (1, _)]) rfl rfl Tryd.underlying25 F.ti3 rfl rfl rfl ?_
  intro b90
  refine lst_on rfl rfl ?_
  refine lst_fn0 (v := .bool true) (vs := [_, _]) rfl rfl F.ent32 (fun a w ha => (eqInts_c A2 (some ⟨b90, 0, none⟩) c2 2 [0, 3] [0, 3] (by decide) w (row_reads ha (cells := icell) (size := 1) (e := 3) (c := c2) (n := 2) (l := [0, 3]) (fun _ => rfl) (InR.mem (A := A2)) rfl) (blk_reads ha (cells := icell) (size := 1) (b := b90) (l := [0, 3]) (fun _ => rfl) rfl)).mono (fun e w' h => ⟨h.1.trans (by simp), h.2⟩)) ?_
  refine lst_pick_true rfl rfl rfl ?_
  refine lst_move rfl rfl ?_
  refine lst_on rfl rfl ?_
  refine lst_move rfl rfl ?_
  refine lst_on rfl rfl ?_
  refine lst_lit (vs := [(0, _), (1, _), (2, _)]) rfl rfl Tryd.underlying25 F.ti3 rfl rfl rfl ?_
  intro b95
  refine lst_on rfl rfl ?_
  refine lst_fn0 (v := .bool true) (vs := [_, _]) rfl rfl F.ent32 (fun a w ha => (eqInts_c A3 (some ⟨b95, 0, none⟩) c3 3 [2, 0, 1] [2, 0, 1] (by decide) w (row_reads ha (cells := icell) (size := 1) (e := 3) (c := c3) (n := 3) (l := [2, 0, 1]) (fun _ => rfl) (InR.mem (A := A3)) rfl) (blk_reads ha (cells := icell) (size := 1) (b := b95) (l := [2, 0, 1]) (fun _ => rfl) rfl)).mono (fun e w' h => ⟨h.1.trans (by simp), h.2⟩)) ?_
  refine lst_pick_true rfl rfl rfl ?_
  refine lst_move rfl rfl ?_
  refine lst_on rfl rfl ?_
  refine lst_move rfl rfl ?_
  refine lst_on rfl rfl ?_
  refine lst_lit (vs := [(0, _), (1, _)]) rfl rfl Tryd.underlying25 F.ti3 rfl rfl rfl ?_
  intro b100
  refine lst_on rfl rfl ?_
  refine lst_fn0 (v := .bool true) (vs := [_, _]) rfl rfl F.ent32 (fun a w ha => (eqInts_c A5 (some ⟨b100, 0, none⟩) c5 2 [0, 1] [0, 1] (by decide) w (row_reads ha (cells := icell) (size := 1) (e := 3) (c := c5) (n := 2) (l := [0, 1]) (fun _ => rfl) (InR.mem (A := A5)) rfl) (blk_reads ha (cells := icell) (size := 1) (b := b100) (l := [0, 1]) (fun _ => rfl) rfl)).mono (fun e w' h => ⟨h.1.trans (by simp), h.2⟩)) ?_
  refine lst_pick_true rfl rfl rfl ?_
  refine lst_move rfl rfl ?_
  refine lst_on rfl rfl ?_
  refine lst_move rfl rfl ?_
  refine lst_on rfl rfl ?_
  refine lst_lit (vs := [(0, _)]) rfl rfl Tryd.underlying25 F.ti3 rfl rfl rfl ?_
  intro b105
  refine lst_on rfl rfl ?_
  refine lst_fn0 (v := .bool true) (vs := [_, _]) rfl rfl F.ent32 (fun a w ha => (eqInts_c A6 (some ⟨b105, 0, none⟩) c6 1 [1] [1] (by decide) w (row_reads ha (cells := icell) (size := 1) (e := 3) (c := c6) (n := 1) (l := [1]) (fun _ => rfl) (InR.mem (A := A6)) rfl) (blk_reads ha (cells := icell) (size := 1) (b := b105) (l := [1]) (fun _ => rfl) rfl)).mono (fun e w' h => ⟨h.1.trans (by simp), h.2⟩)) ?_
  refine lst_pick_true rfl rfl rfl ?_
  refine lst_assign rfl rfl ?_
  refine lst_nil ?_
  refine ex_then ?_
  refine cod_ret ?_
  exact ex_ret rfl (fun a w ha => res_one rfl rfl ha) (fun a w ha => ⟨rfl, ha.grown (List.nil_sublist _)⟩)

end Go.Proofs.YtofkhehcnfiopaaDoor.N
namespace Go.Proofs.YtofkhehcnfiopaaDoor.N
open Go Go.RowKit Go.Proofs
set_option linter.unusedSectionVars false
variable [I : Sys]
/-- A block pulled to the front. -/
class Pul (b : Nat) (o : outParam Obj) (hp : List Res) (T : outParam (List Res)) : Prop where
  perm : hp.Perm (.blk b o :: T)
instance Pul.tail (b : Nat) (o : Obj) (x : Res) (l T : List Res) [h : Pul b o l T] : Pul b o (x :: l) (x :: T) := ⟨(h.perm.cons x).trans (.swap _ _ _)⟩
instance Pul.head (b : Nat) (o : Obj) (l : List Res) : Pul b o (.blk b o :: l) l := ⟨.refl _⟩
section
variable {C : Ctx} {fr : List (Nat × Value)} {hp hp' : List Res} {a : Act} {w : World} {ops : Array Oper} {Q : Exit → Act → World → Prop} {rest : List Oper}
  {d : Nat} {ty : TypeId} {pos : String} {after : Array Edge}
end
end Go.Proofs.YtofkhehcnfiopaaDoor.N
namespace Go.Proofs.YtofkhehcnfiopaaDoor.N
open Go Go.RowKit Go.Proofs
set_option linter.unusedSectionVars false
variable [I : Sys]
/-- What a melt is behind a way; none if it is no way. -/
def followN (ags : List Ag) : Nat → List Nat → Option Nat
  | f, [] => some f
  | f, i :: l => if i < ags.length ∧ mayN (ags.getD i default) f = true then followN ags (putN (ags.getD i default) f) l else none
def followV (o : Option Nat) : Nat := o.getD 0
end Go.Proofs.YtofkhehcnfiopaaDoor.N
namespace Go.Proofs.YtofkhehcnfiopaaDoor.N
open Go Go.RowKit Go.Proofs
set_option linter.unusedSectionVars false
variable [I : Sys]
section
variable {C : Ctx} {fr : List (Nat × Value)} {hp hp' : List Res} {a : Act} {w : World} {ops : Array Oper} {Q : Exit → Act → World → Prop} {rest : List Oper}
  {d : Nat} {ty : TypeId} {pos : String} {after : Array Edge}
/-- A slice's literal is a row. -/
theorem At.as_rowN (ha : At C fr hp a w) {b e size n : Nat} {l : List Value} (hl : l.length = n * size) (hn : n ≤ maxLen) (hu : Upd (.blk b (.cells l.toArray e (0, 0))) (.row e size (some ⟨b, 0, none⟩) n n l) hp hp') : At C fr hp' a w := by
  have hb := ha.own _ hu.mem
  refine ha.turn hu (⟨rfl, rfl, rfl, Nat.le_refl _, fun _ _ _ => rfl⟩ : w.grownBy w _) ⟨hl, .inr ⟨b, n, l.toArray, rfl, hb.1, hb.2, Nat.le_refl _, hn, by simp [hl], by simp [← hl]⟩⟩ (fun k hk => .inl ?_)
  exact hk
theorem lst_as_rowN {l : List Oper} {b e : Nat} (size n : Nat) {cs : List Value} (hl : cs.length = n * size) (hn : n ≤ maxLen) (hu : Upd (.blk b (.cells cs.toArray e (0, 0))) (.row e size (some ⟨b, 0, none⟩) n n cs) hp hp') (h : Lst C ops Q l fr hp') : Lst C ops Q l fr hp := fun a w ha => h a w (ha.as_rowN hl hn hu)
end
/-- A list of numbers, somewhere. -/
structure Sl where
  A : Option Addr
  c : Nat
  l : List Nat
def Sl.val (s : Sl) : Value := .slice s.A s.l.length s.c
def Sl.res (s : Sl) : Res := .row 3 1 s.A s.l.length s.c (ints s.l)
theorem Pck.snoc (Ms : List Sl) (s : Sl) (R : List Res) : Pck ((Ms ++ [s]).map Sl.res ++ R) (s.res :: (Ms.map Sl.res ++ R)) := by
  refine .perm ?_ (.refl _)
  rw [List.map_append, List.append_assoc]
  exact List.perm_middle.symm
/-- All lists of k numbers below n, in their order. -/
def strs (n : Nat) : Nat → List (List Nat)
  | 0 => [[]]
  | k + 1 => (strs n k).flatMap fun x => (List.range n).map fun y => x ++ [y]
end Go.Proofs.YtofkhehcnfiopaaDoor.N
namespace Go.Proofs.YtofkhehcnfiopaaDoor.N
open Go Go.RowKit Go.Proofs
set_option linter.unusedSectionVars false
variable [I : Sys]
theorem Pck.of_sub {t l : List Res} (h : t.Sublist l) : Pck t l := by
  induction h with
  | slnil => exact .nil _
  | cons x _ ih => exact .skip x ih
  | cons_cons x _ ih => exact .cons (.here _) ih
theorem Pck.pre (l R : List Res) : Pck (l ++ []) (l ++ R) := .of_sub (by rw [List.append_nil]; exact List.sublist_append_left l R)
theorem strs_mem {n : Nat} : ∀ {k : Nat} {x : List Nat}, x ∈ strs n k → x.length = k ∧ ∀ i ∈ x, i < n
  | 0, x, h => by
    simp [strs] at h
    subst h
    exact ⟨rfl, by simp⟩
  | k + 1, x, h => by
    unfold strs at h
    obtain ⟨y, hy, h2⟩ := List.mem_flatMap.1 h
    obtain ⟨z, hz, rfl⟩ := List.mem_map.1 h2
    obtain ⟨h3, h4⟩ := strs_mem hy
    refine ⟨by simp [h3], fun i hi => ?_⟩
    rcases List.mem_append.1 hi with h5 | h5
    · exact h4 i h5
    · simp at h5; subst h5; exact List.mem_range.1 hz
end Go.Proofs.YtofkhehcnfiopaaDoor.N
namespace Go.Proofs.YtofkhehcnfiopaaDoor.N
open Go Go.RowKit Go.Proofs
set_option linter.unusedSectionVars false
variable [I : Sys]
theorem Pck.swap (l R : List Res) : Pck (R ++ l) (l ++ R) := .perm List.perm_append_comm (.refl _)
theorem agd_ok {ags : List Ag} (hok : Oks ags) {i : Nat} (hi : i < ags.length) : (ags.getD i default).ok := by
  rw [List.getD_eq_getElem?_getD, List.getElem?_eq_getElem hi]
  exact hok.2 _ (List.getElem_mem hi)
/-- A list of agents that clears both melts. -/
def clears (ags : List Ag) (a b p : Nat) (v : List Nat) : Bool :=
  (followN ags a v).isSome && (followN ags b v).isSome && decide (nn (followV (followN ags a v)) p = 0) && decide (nn (followV (followN ags b v)) p = 0)
/-! Lists in their order. -/
theorem strs_all {n : Nat} : ∀ {k : Nat} {v : List Nat}, Wd n v → v.length = k → v ∈ strs n k
  | 0, v, _, h => by
    obtain rfl : v = [] := List.eq_nil_of_length_eq_zero h
    simp [strs]
  | k + 1, v, hv, h => by
    rcases snoc_cases v with rfl | ⟨u, i, rfl⟩
    · simp at h
    · obtain ⟨h1, h2⟩ := Wd.snoc.1 hv
      unfold strs
      exact List.mem_flatMap.2 ⟨u, strs_all h1 (by simpa using h), List.mem_map.2 ⟨i, List.mem_range.2 h2, rfl⟩⟩
theorem strs_sorted (n : Nat) : ∀ k, (strs n k).Pairwise (fun u v => code n u < code n v)
  | 0 => by simp [strs]
  | k + 1 => by
    unfold strs
    rw [List.pairwise_flatMap]
    refine ⟨fun x _ => ?_, ?_⟩
    · rw [List.pairwise_map]
      refine List.Pairwise.imp ?_ List.pairwise_lt_range
      intro i j hij
      rw [code_snoc, code_snoc]
      omega
    · refine List.Pairwise.imp ?_ (strs_sorted n k)
      intro u v huv x hx y hy
      obtain ⟨i, hi, rfl⟩ := List.mem_map.1 hx
      obtain ⟨j, _, rfl⟩ := List.mem_map.1 hy
      rw [code_snoc, code_snoc]
      exact code_snoc_lt huv (List.mem_range.1 hi)
theorem strs_le_code {n k i j : Nat} {u v : List Nat} (hu : (strs n k)[i]? = some u) (hv : (strs n k)[j]? = some v) (hij : i ≤ j) : code n u ≤ code n v := by
  rcases Nat.lt_or_ge i j with h | h
  · obtain ⟨h1, e1⟩ := List.getElem?_eq_some_iff.1 hu
    obtain ⟨h2, e2⟩ := List.getElem?_eq_some_iff.1 hv
    have := List.pairwise_iff_getElem.1 (strs_sorted n k) i j h1 h2 h
    rw [e1, e2] at this
    omega
  · obtain rfl : i = j := by omega
    rw [hu] at hv
    cases hv
    exact Nat.le_refl _
end Go.Proofs.YtofkhehcnfiopaaDoor.N
namespace Go.Proofs.YtofkhehcnfiopaaDoor.N
open Go Go.RowKit Go.Proofs
set_option linter.unusedSectionVars false
variable [I : Sys]
variable {ags : List Ag} {a b : Nat}
/-- A list whose last agent may be put to just one of both melts. -/
def tq (ags : List Ag) (a b : Nat) (v : List Nat) : Bool :=
  (followN ags a v.dropLast).isSome && (followN ags b v.dropLast).isSome && ((followN ags a v).isSome != (followN ags b v).isSome)
theorem tq_sym (v : List Nat) : tq ags a b v = tq ags b a v := by
  unfold tq
  cases (followN ags a v.dropLast).isSome <;> cases (followN ags b v.dropLast).isSome <;> cases (followN ags a v).isSome <;> cases (followN ags b v).isSome <;> rfl
theorem tq_self (v : List Nat) : tq ags a a v = false := by
  unfold tq
  simp
def TellsS (ags : List Ag) (a b : Nat) : Option Wk → Prop
  | none => ∀ v, v.length ≤ 5 → tq ags a b v = false
  | some k => tq ags a b (k.how ++ [tellsI ags k.team]) = true ∧ Wd ags.length (k.how ++ [tellsI ags k.team]) ∧ (k.how ++ [tellsI ags k.team]).length ≤ 5 ∧ ∀ v, tq ags a b v = true → v.length ≤ 5 → code ags.length (k.how ++ [tellsI ags k.team]) ≤ code ags.length v
theorem TellsS.sym {o : Option Wk} (h : TellsS ags a b o) : TellsS ags b a o := by
  cases o with
  | none => exact fun v hv => by rw [tq_sym]; exact h v hv
  | some k => exact ⟨by rw [tq_sym]; exact h.1, h.2.1, h.2.2.1, fun v hv => h.2.2.2 v (by rw [tq_sym]; exact hv)⟩
theorem TellsS.self {o : Option Wk} (h : TellsS ags a a o) : o = none := by
  cases o with
  | none => rfl
  | some k => have := h.1; rw [tq_self] at this; cases this
theorem TellsS.at {o : Option Wk} (h : TellsS ags a b o) {k i : Nat} {v : List Nat} (hk : k ≤ 5) (hv : (strs ags.length k)[i]? = some v) (hc : tq ags a b v = true) (h0 : ∀ u, Wd ags.length u → u.length < k → tq ags a b u = false)
    (h1 : ∀ j u, j < i → (strs ags.length k)[j]? = some u → tq ags a b u = false) : o.isSome = true ∧ tellsL ags o = v := by
  have hvl := (strs_mem (List.mem_of_getElem? hv)).1
  have hvw : Wd ags.length v := (strs_mem (List.mem_of_getElem? hv)).2
  cases o with
  | none => have := h v (by omega); rw [hc] at this; cases this
  | some w =>
    refine ⟨rfl, ?_⟩
    obtain ⟨g1, g2, g3, g4⟩ := h
    have hle := g4 v hc (by omega)
    show w.how ++ [tellsI ags w.team] = v
    rcases Nat.lt_trichotomy (w.how ++ [tellsI ags w.team]).length k with hl | hl | hl
    · rw [h0 _ g2 hl] at g1; cases g1
    · obtain ⟨j, hj⟩ := List.getElem?_of_mem (strs_all g2 hl)
      rcases Nat.lt_or_ge j i with h2 | h2
      · rw [h1 j _ h2 hj] at g1; cases g1
      · exact code_inj ags.length _ _ _ rfl g2 hvw (Nat.le_antisymm hle (strs_le_code hv hj h2))
    · have := code_lt_of_len ags.length _ (w.how ++ [tellsI ags w.team]) v rfl (by omega) hvw
      omega
end Go.Proofs.YtofkhehcnfiopaaDoor.N
namespace Go.Proofs.YtofkhehcnfiopaaDoor.N
open Go Go.RowKit Go.Proofs
set_option linter.unusedSectionVars false
variable [I : Sys]
variable {ags : List Ag} {p : Nat}
theorem can_all {f i : Nat} : i ∈ canTo ags (usedAll ags.length) f ags.length ↔ i < ags.length ∧ mayN (ags.getD i default) f = true := by
  constructor
  · intro h
    obtain ⟨h1, _, h3⟩ := canTo_mem h
    exact ⟨h1, h3⟩
  · rintro ⟨h1, h2⟩
    unfold canTo
    refine List.mem_filter.2 ⟨List.mem_range.2 h1, ?_⟩
    rw [usedAll_bit, h2]
    simpa using h1
def costN (ags : List Ag) (l : List Nat) : Nat := (l.map fun i => (ags.getD i default).cost).sum
/-- What Cheapest says. -/
structure ChS (ags : List Ag) (p f : Nat) (W : List Nat) (c E : Nat) : Prop where
  yes : E = 0 → Opt ags (usedAll ags.length) p f c W.length ∧ (∃ e, followN ags f W = some e ∧ nn e p = 0) ∧ costN ags W = c ∧ Wd ags.length W ∧ W.length ≤ 63
  no : E ≠ 0 → E = 11 ∧ c = 0 ∧ W = [] ∧ ∀ c k, ¬ Wy ags (usedAll ags.length) p f c k
theorem ChS.clear {f c E : Nat} {W : List Nat} (h : ChS ags p f W c E) (h0 : nn f p = 0) : E = 0 ∧ c = 0 ∧ W = [] := by
  have hw : Wy ags (usedAll ags.length) p f 0 0 := Wy.done h0
  by_cases hE : E = 0
  · have := (h.yes hE).1.2 _ _ hw
    unfold lexle at this
    refine ⟨hE, by omega, List.length_eq_zero_iff.1 (by omega)⟩
  · exact absurd hw ((h.no hE).2.2.2 0 0)
/-- Whatever is put first, it costs no less. -/
theorem ChS.step {f c E i c' E' : Nat} {W W' : List Nat} (h : ChS ags p f W c E) (hi : i < ags.length) (hm : mayN (ags.getD i default) f = true) (h' : ChS ags p (putN (ags.getD i default) f) W' c' E') (h0 : E' = 0) : E = 0 ∧ c ≤ c' + (ags.getD i default).cost := by
  have hw := Wy.step (can_all.2 ⟨hi, hm⟩) (h'.yes h0).1.1
  by_cases hE : E = 0
  · have := (h.yes hE).1.2 _ _ hw
    unfold lexle at this
    exact ⟨hE, by omega⟩
  · exact absurd hw ((h.no hE).2.2.2 _ _)
/-- With some agent put first, it costs just as much. -/
theorem ChS.some {f c : Nat} {W : List Nat} (hok : Oks ags) (h : ChS ags p f W c 0) (hf : f < 64) (h0 : nn f p ≠ 0) : ∃ i n m, i < ags.length ∧ mayN (ags.getD i default) f = true ∧ Opt ags (usedAll ags.length) p (putN (ags.getD i default) f) n m ∧ n + (ags.getD i default).cost = c := by
  have ho := (h.yes rfl).1
  cases hl : W.length with
  | zero =>
    rw [hl] at ho
    have hw := ho.1
    cases hw with
    | done h1 => exact absurd h1 h0
  | succ k =>
    rw [hl] at ho
    obtain ⟨i, c', hi, hc, _, hog⟩ := ho.next hok hf
    obtain ⟨h1, h2⟩ := can_all.1 hi
    exact ⟨i, c', k, h1, h2, hog, hc.symm⟩
end Go.Proofs.YtofkhehcnfiopaaDoor.N
namespace Go.Proofs.YtofkhehcnfiopaaDoor.N
open Go Go.RowKit Go.Proofs
set_option linter.unusedSectionVars false
variable [I : Sys]
theorem F.ent21 : Enters Tryd.prog 21 := enters_of Tryd.func21 rfl (by kernel_rfl)
end Go.Proofs.YtofkhehcnfiopaaDoor.N
namespace Go.Proofs.YtofkhehcnfiopaaDoor.N
open Go Go.RowKit Go.Proofs
set_option linter.unusedSectionVars false
variable [I : Sys]
theorem ChS.wd {ags : List Ag} {p f c E : Nat} {W : List Nat} (h : ChS ags p f W c E) : Wd ags.length W := by
  by_cases hE : E = 0
  · exact (h.yes hE).2.2.2.1
  · rw [(h.no hE).2.2.1]
    exact fun i hi => by simp at hi
/-- What is known once the way has been followed. -/
theorem ChS.walked {ags : List Ag} {p f c E : Nat} {W : List Nat} {i : Nat} (h : ChS ags p f W c E) (hi : i ≤ W.length) (hend : (decide (i < W.length) && (followN ags f W).isSome) = false) :
    (E = 0 → (followN ags f W).isSome = true ∧ nn (followV (followN ags f W)) p = 0 ∧ costN ags (W.take i) = c) ∧ (E ≠ 0 → E = 11 ∧ c = 0 ∧ W.length = 0) := by
  refine ⟨fun hE => ?_, fun hE => ?_⟩
  · obtain ⟨_, ⟨e, h1, h2⟩, h3, _, _⟩ := h.yes hE
    rw [h1] at hend ⊢
    simp at hend
    obtain rfl : i = W.length := by omega
    exact ⟨rfl, h2, by rw [List.take_length]; exact h3⟩
  · obtain ⟨h1, h2, h3, _⟩ := h.no hE
    exact ⟨h1, h2, by rw [h3]; rfl⟩
/-- Whether one of the first agents, put first, makes it cost just as much. -/
def Eqv (ags : List Ag) (p m c i : Nat) (b : Bool) : Prop := b = true ↔ ∃ j, j < i ∧ mayN (ags.getD j default) m = true ∧ ∃ n k, Opt ags (usedAll ags.length) p (putN (ags.getD j default) m) n k ∧ n + (ags.getD j default).cost = c
theorem Eqv.zero {ags : List Ag} {p m c : Nat} : Eqv ags p m c 0 false := ⟨fun h => (by cases h), fun ⟨j, h, _⟩ => absurd h (by omega)⟩
theorem Eqv.skip {ags : List Ag} {p m c i : Nat} {b : Bool} (h : Eqv ags p m c i b) (hn : mayN (ags.getD i default) m = true → ∀ n k, ¬ Opt ags (usedAll ags.length) p (putN (ags.getD i default) m) n k) : Eqv ags p m c (i + 1) b := by
  refine ⟨fun hb => ?_, fun ⟨j, h1, h2, n, k, h3, h4⟩ => ?_⟩
  · obtain ⟨j, h1, h2⟩ := h.1 hb
    exact ⟨j, by omega, h2⟩
  · rcases Nat.lt_or_ge j i with h5 | h5
    · exact h.2 ⟨j, h5, h2, n, k, h3, h4⟩
    · obtain rfl : j = i := by omega
      exact absurd h3 (hn h2 n k)
end Go.Proofs.YtofkhehcnfiopaaDoor.N
namespace Go.Proofs.YtofkhehcnfiopaaDoor.N
open Go Go.RowKit Go.Proofs
set_option linter.unusedSectionVars false
variable [I : Sys]
/-! Whether a melt can be cleared, by agents of which some are used. -/
def Us (ags : List Ag) (used : Nat) (x : Ag) : Prop := ∃ i, i < ags.length ∧ used.testBit i = true ∧ ags.getD i default = x
def Clr (ags : List Ag) (used p f : Nat) : Prop := ∃ c k, Wy ags used p f c k
theorem can_mem {ags : List Ag} {used f i : Nat} : i ∈ canTo ags used f ags.length ↔ i < ags.length ∧ used.testBit i = true ∧ mayN (ags.getD i default) f = true := by
  constructor
  · exact canTo_mem
  · rintro ⟨h1, h2, h3⟩
    unfold canTo
    refine List.mem_filter.2 ⟨List.mem_range.2 h1, ?_⟩
    rw [h2, h3]; rfl
theorem Wy.mono {ags ags' : List Ag} {used used' p p' : Nat} (hu : ∀ x, Us ags used x → Us ags' used' x) (hp : ∀ f, nn f p = 0 → nn f p' = 0) : ∀ {f c k : Nat}, Wy ags used p f c k → Wy ags' used' p' f c k := by
  intro f c k h
  induction h with
  | done h => exact .done (hp _ h)
  | @step f i c k hi _ ih =>
    obtain ⟨h1, h2, h3⟩ := can_mem.1 hi
    obtain ⟨j, g1, g2, g3⟩ := hu _ ⟨i, h1, h2, rfl⟩
    rw [← g3] at ih h3 ⊢
    exact .step (can_mem.2 ⟨g1, g2, h3⟩) ih
theorem Clr.mono {ags ags' : List Ag} {used used' p p' : Nat} (hu : ∀ x, Us ags used x → Us ags' used' x) (hp : ∀ f, nn f p = 0 → nn f p' = 0) {f : Nat} (h : Clr ags used p f) : Clr ags' used' p' f := by
  obtain ⟨c, k, h⟩ := h
  exact ⟨c, k, h.mono hu hp⟩
theorem us_all {ags : List Ag} {x : Ag} : Us ags (usedAll ags.length) x ↔ x ∈ ags := by
  constructor
  · rintro ⟨i, h1, _, rfl⟩
    rw [List.getD_eq_getElem?_getD, List.getElem?_eq_getElem h1]
    exact List.getElem_mem h1
  · intro h
    obtain ⟨i, hi, rfl⟩ := List.getElem_of_mem h
    exact ⟨i, hi, by rw [usedAll_bit]; simpa using hi, by rw [List.getD_eq_getElem?_getD, List.getElem?_eq_getElem hi]; rfl⟩
/-- One melt's steps are those of a team of one. -/
theorem step_one {ags : List Ag} {used f i a b : Nat} : stepT ags used 1 (f, a, b) i = if i ∈ canTo ags used f ags.length then some (putN (ags.getD i default) f, a, b) else none := by
  unfold stepT
  have hm : mayT (ags.getD i default) (f, a, b) 1 = mayN (ags.getD i default) f := by simp [mayT, List.range_succ, tget]
  rw [hm]
  by_cases h : i < ags.length ∧ used.testBit i = true ∧ mayN (ags.getD i default) f = true
  · rw [if_pos h, if_pos (can_mem.2 h)]
    rfl
  · rw [if_neg h, if_neg (fun x => h (can_mem.1 x))]
theorem run_wy {ags : List Ag} {used p : Nat} : ∀ (v : List Nat) (f a b : Nat) (t : Tm), run (stepT ags used 1) (f, a, b) v = some t → nn t.1 p = 0 → ∃ c, Wy ags used p f c v.length
  | [], f, a, b, t, h, hc => by
    cases h
    exact ⟨0, .done hc⟩
  | i :: v, f, a, b, t, h, hc => by
    have h' : (stepT ags used 1 (f, a, b) i).bind (fun s => run (stepT ags used 1) s v) = some t := h
    rw [step_one] at h'
    split at h'
    · rename_i hi
      obtain ⟨c, hw⟩ := run_wy v _ a b t h' hc
      exact ⟨_, .step hi hw⟩
    · cases h'
theorem wy_run {ags : List Ag} {used p : Nat} {f c k : Nat} (h : Wy ags used p f c k) (a b : Nat) : ∃ v t, run (stepT ags used 1) (f, a, b) v = some t ∧ nn t.1 p = 0 ∧ v.length = k := by
  induction h with
  | @done f h => exact ⟨[], (f, a, b), rfl, h, rfl⟩
  | @step f i c k hi _ ih =>
    obtain ⟨v, t, h1, h2, h3⟩ := ih
    refine ⟨i :: v, t, ?_, h2, by rw [List.length_cons, h3]⟩
    show (stepT ags used 1 (f, a, b) i).bind (fun s => run (stepT ags used 1) s v) = some t
    rw [step_one, if_pos hi]
    exact h1
/-- What Shortest finds: fewest agents, if any. -/
theorem short_spec {ags : List Ag} {used p f : Nat} {o : Option Wk} (ho : FoundO ags used 1 (-1) (f, 0, 0) (fun t => decide (nn t.1 p = 0)) o) :
    (o.isSome = true ↔ Clr ags used p f) ∧ ((∃ c, Wy ags used p f c (wayO o).how.length) ∨ o = none) ∧ (o = none ∨ ∀ c k, Wy ags used p f c k → (wayO o).how.length ≤ k) := by
  cases o with
  | none =>
    refine ⟨⟨fun h => Bool.noConfusion h, ?_⟩, .inr rfl, .inl rfl⟩
    rintro ⟨c, k, h⟩
    obtain ⟨v, t, h1, h2, _⟩ := wy_run h 0 0
    have := ho v t h1 (.inl (by decide))
    simp [h2] at this
  | some w =>
    obtain ⟨h1, h2, h3⟩ := ho
    obtain ⟨c, hw⟩ := run_wy w.how f 0 0 w.team h2 (of_decide_eq_true h3)
    refine ⟨⟨fun _ => ⟨c, _, hw⟩, fun _ => rfl⟩, .inl ⟨c, hw⟩, .inr fun c' k' h' => ?_⟩
    obtain ⟨v, t, g1, g2, g3⟩ := wy_run h' 0 0
    have hle := h1.2.2 v t g1 (decide_eq_true g2) (.inl (by decide))
    show w.how.length ≤ k'
    rcases Nat.lt_or_ge k' w.how.length with h | h
    · have hv := run_wd _ stepT_none _ _ _ g1
      have := code_lt_of_len ags.length w.how.length w.how v rfl (by omega) hv
      omega
    · exact h
/-- A set of melts as a number. -/
def SetN (n : Nat) (q : Nat → Prop) : Prop := n < 18446744073709551616 ∧ ∀ f, f < 64 → (n.testBit f = true ↔ q f)
theorem SetN.compl {n : Nat} {q : Nat → Prop} (h : SetN n q) : SetN (18446744073709551615 ^^^ n) (fun f => ¬ q f) := by
  refine ⟨show _ < 2 ^ 64 from Nat.xor_lt_two_pow (by decide) h.1, fun f hf => ?_⟩
  rw [Nat.testBit_xor]
  have e : (18446744073709551615 : Nat).testBit f = true := by
    rw [show (18446744073709551615 : Nat) = 2 ^ 64 - 1 by decide, Nat.testBit_two_pow_sub_one]
    simpa using hf
  show _ ↔ ¬ q f
  rw [e, ← h.2 f hf]
  cases n.testBit f <;> simp
theorem testBit_or_one (n f g : Nat) : (n ||| 1 <<< f).testBit g = (n.testBit g || decide (f = g)) := by
  rw [Nat.testBit_or, Nat.one_shiftLeft, Nat.testBit_two_pow]
/-- The melts of a set. -/
def listN (n k : Nat) : List Nat := (List.range k).filter fun f => n.testBit f
theorem listN_succ (n k : Nat) : listN n (k + 1) = listN n k ++ (if n.testBit k = true then [k] else []) := by
  unfold listN
  rw [List.range_succ, List.filter_append]
  congr 1
  by_cases h : n.testBit k = true
  · rw [if_pos h]; simp [h]
  · rw [if_neg h]; simp [h]
theorem listN_len (n k : Nat) : (listN n k).length ≤ k := by
  unfold listN
  exact Nat.le_trans (List.length_filter_le _ _) (by simp)
theorem SetN.eq {n m : Nat} {q : Nat → Prop} (h : SetN n q) (h' : SetN m q) : n = m := by
  refine Nat.eq_of_testBit_eq fun f => ?_
  rcases Nat.lt_or_ge f 64 with hf | hf
  · have h1 := h.2 f hf
    have h2 := h'.2 f hf
    cases e1 : n.testBit f <;> cases e2 : m.testBit f <;> simp_all
  · have hp : (2 : Nat) ^ 64 ≤ 2 ^ f := Nat.pow_le_pow_right (by omega) hf
    have h1 : n < 2 ^ f := Nat.lt_of_lt_of_le h.1 hp
    have h2 : m < 2 ^ f := Nat.lt_of_lt_of_le h'.1 hp
    rw [Nat.testBit_lt_two_pow h1, Nat.testBit_lt_two_pow h2]
theorem drop_pr : ∀ (ps : List Pr) (k : Nat), k < ps.length → ((ps.flatMap Pr.cells).drop (k * 3)).take 3 = (ps.getD k default).cells
  | [], k, h => by cases h
  | p :: ps, 0, _ => by rfl
  | p :: ps, k + 1, h => by
    have := drop_pr ps k (by simpa using h)
    rw [List.flatMap_cons, show (k + 1) * 3 = p.cells.length + k * 3 by show _ = 3 + k * 3; omega, List.drop_length_add_append, this]
    rfl
theorem fix_all {ags : List Ag} {used p : Nat} (hok : Oks ags) : ∃ N, N ≤ 1000 ∧ (roundP ags used (iterP ags used p N) 64).2 = false := ⟨63, by omega, round_ends hok⟩
theorem known_clr {ags : List Ag} {used p j f : Nat} (hok : Oks ags) (h : (roundP ags used (iterP ags used p j) 64).2 = false) (hf : f < 64) : ((iterP ags used p j).getD f default).known = true ↔ Clr ags used p f :=
  ⟨fun hk => ⟨_, _, Snd.iter hok j f hf hk⟩, fun ⟨_, _, hw⟩ => fix_known hok h hf hw⟩
theorem shl_u64 {f : Nat} (hf : f < 64) : IntKind.u64.wrap (1 * 2 ^ (min ((f : Int)).toNat 64)) = ((1 <<< f : Nat) : Int) := by
  rw [Int.toNat_natCast, Nat.min_eq_left (by omega), Nat.one_shiftLeft, Int.one_mul]
  have h1 : 2 ^ f < 2 ^ 64 := Nat.pow_lt_pow_right (by omega) hf
  have h2 := wrap_u64 (2 ^ f) h1
  rw [← h2]
  congr 1
theorem or_one_lt {n f : Nat} (hn : n < 18446744073709551616) (hf : f < 64) : n ||| 1 <<< f < 18446744073709551616 := by
  have h1 : 1 <<< f < 2 ^ 64 := by rw [Nat.one_shiftLeft]; exact Nat.pow_lt_pow_right (by omega) hf
  exact show _ < 2 ^ 64 from Nat.or_lt_two_pow hn h1
theorem shl_lt {f : Nat} (hf : f < 64) : 1 <<< f < 18446744073709551616 := by
  rw [Nat.one_shiftLeft]
  exact show _ < 2 ^ 64 from Nat.pow_lt_pow_right (by omega) hf
end Go.Proofs.YtofkhehcnfiopaaDoor.N
namespace Go.Proofs.YtofkhehcnfiopaaDoor.N
open Go Go.RowKit Go.Proofs
set_option linter.unusedSectionVars false
variable [I : Sys]
open Classical in
noncomputable def fltP (q : Nat → Prop) (l : List Nat) : List Nat := l.filter fun i => decide (q i)
theorem fltP_yes {q : Nat → Prop} {l : List Nat} {i : Nat} (h : q i) : fltP q (l ++ [i]) = fltP q l ++ [i] := by
  unfold fltP
  rw [List.filter_append]
  simp [h]
theorem fltP_no {q : Nat → Prop} {l : List Nat} {i : Nat} (h : ¬ q i) : fltP q (l ++ [i]) = fltP q l := by
  unfold fltP
  rw [List.filter_append]
  simp [h]
theorem fltP_len (q : Nat → Prop) (l : List Nat) : (fltP q l).length ≤ l.length := List.length_filter_le _ _
theorem fltP_mem {q : Nat → Prop} {l : List Nat} {i : Nat} : i ∈ fltP q l ↔ i ∈ l ∧ q i := by
  unfold fltP
  rw [List.mem_filter]
  simp
theorem listN_flt {n : Nat} {q : Nat → Prop} (h : SetN n q) : listN n 64 = fltP q (List.range 64) := by
  unfold listN fltP
  refine List.filter_congr fun f hf => ?_
  have := h.2 f (List.mem_range.1 hf)
  cases e : n.testBit f with
  | true => rw [e] at this; simp [this.1 rfl]
  | false => rw [e] at this; simp; intro hq; have := this.2 hq; cases this
theorem shl_u8 {k : Nat} (hk : k < 8) : IntKind.u8.wrap (1 * 2 ^ (min ((k : Int)).toNat 8)) = ((1 <<< k : Nat) : Int) := by
  rw [Int.toNat_natCast, Nat.min_eq_left (by omega), Nat.one_shiftLeft, Int.one_mul]
  have h1 : 2 ^ k < 2 ^ 8 := Nat.pow_lt_pow_right (by omega) hk
  have h2 := wrap_u8 (2 ^ k) h1
  rw [← h2]
  congr 1
theorem shl8_lt {k : Nat} (hk : k < 8) : 1 <<< k < 256 := by
  rw [Nat.one_shiftLeft]
  exact show _ < 2 ^ 8 from Nat.pow_lt_pow_right (by omega) hk
theorem nn_lt8 {a b : Nat} (ha : a < 256) : nn a b < 256 := by
  unfold nn
  exact show _ < 2 ^ 8 from Nat.xor_lt_two_pow ha (show _ < 2 ^ 8 from and_lt b ha)
/-- The agents but one. -/
def butN (n i : Nat) : Nat := nn (usedAll n) (1 <<< i)
theorem butN_lt {n i : Nat} (hn : n ≤ 4) : butN n i < 256 := nn_lt8 (by have := usedAll_lt hn; omega)
/-- What Needed and Spoils list. -/
noncomputable def needL (ags : List Ag) (p f k : Nat) : List Nat := fltP (fun i => ¬ Clr ags (butN ags.length i) p f) (List.range k)
noncomputable def spoilL (ags : List Ag) (p f : Nat) (l : List Nat) : List Nat := fltP (fun i => ¬ Clr ags (usedAll ags.length) p (putN (ags.getD i default) f)) l
noncomputable def hopeL (ags : List Ag) (p : Nat) : List Nat := fltP (fun f => ¬ Clr ags (usedAll ags.length) p f) (List.range 64)
end Go.Proofs.YtofkhehcnfiopaaDoor.N
namespace Go.Proofs.YtofkhehcnfiopaaDoor.N
set_option autoImplicit false
set_option linter.unusedSectionVars false
variable [I : Sys]

/-! What a melt can become, and the search for it, in whatever order it is told. -/
inductive Rch (ags : List Ag) (used f : Nat) : Nat → Prop
  | base : Rch ags used f f
  | step {y i : Nat} (h : Rch ags used f y) (hi : i ∈ canTo ags used y ags.length) : Rch ags used f (putN (ags.getD i default) y)
section
variable {ags : List Ag} {used f p : Nat}
theorem ok_at (hok : Oks ags) {y i : Nat} (hi : i ∈ canTo ags used y ags.length) : (ags.getD i default).ok := by
  have h := (can_mem.1 hi).1
  rw [List.getD_eq_getElem?_getD, List.getElem?_eq_getElem h]
  exact hok.2 _ (List.getElem_mem h)
theorem Rch.lt (hok : Oks ags) (hf : f < 64) {y : Nat} (h : Rch ags used f y) : y < 64 := by
  induction h with
  | base => exact hf
  | step _ hi ih => exact putN_lt (ok_at hok hi) ih
theorem Rch.trans {y z : Nat} (h : Rch ags used f y) (k : Rch ags used y z) : Rch ags used f z := by
  induction k with
  | base => exact h
  | step _ hi ih => exact ih.step hi
theorem Rch.ahead {y i : Nat} (hi : i ∈ canTo ags used f ags.length) (h : Rch ags used (putN (ags.getD i default) f) y) : Rch ags used f y := (Rch.base.step hi).trans h
theorem clr_rch : Clr ags used p f ↔ ∃ y, Rch ags used f y ∧ nn y p = 0 := by
  constructor
  · rintro ⟨c, k, h⟩
    induction h with
    | done h => exact ⟨_, .base, h⟩
    | step hi _ ih =>
      obtain ⟨y, h1, h2⟩ := ih
      exact ⟨y, h1.ahead hi, h2⟩
  · rintro ⟨y, h, hy⟩
    have key : ∀ {y}, Rch ags used f y → Clr ags used p y → Clr ags used p f := by
      intro y h
      induction h with
      | base => exact id
      | step _ hi ih => exact fun ⟨c, k, hw⟩ => ih ⟨_, _, .step hi hw⟩
    exact key h ⟨0, 0, .done hy⟩
/-- What the worker of a melt tells. -/
def msgs (ags : List Ag) (used x : Nat) : List UInt8 := (canTo ags used x ags.length).map (fun i => UInt8.ofNat (putN (ags.getD i default) x)) ++ [255]
theorem ofNat_toNat {z : Nat} (hz : z < 64) : (UInt8.ofNat z).toNat = z := by
  simp [UInt8.toNat_ofNat']
  omega
theorem ofNat_ne {z : Nat} (hz : z < 64) : UInt8.ofNat z ≠ 255 := fun e => by
  have := congrArg UInt8.toNat e
  rw [ofNat_toNat hz] at this
  have h2 : (255 : UInt8).toNat = 255 := rfl
  omega
structure RIr (ags : List Ag) (used f met : Nat) (now : List Nat) : Prop where
  lt : met < 18446744073709551616
  sound : ∀ y, y < 64 → met.testBit y = true → Rch ags used f y
  self : met.testBit f = true
  sub : ∀ y ∈ now, y < 64 ∧ met.testBit y = true
  nodup : now.Nodup
  closed : ∀ y, y < 64 → met.testBit y = true → y ∉ now → ∀ i ∈ canTo ags used y ags.length, met.testBit (putN (ags.getD i default) y) = true
structure RR (ags : List Ag) (used f met0 : Nat) (now : List Nat) (met : Nat) (next : List Nat) (pend : List (List UInt8)) : Prop where
  lt : met < 18446744073709551616
  sound : ∀ y, y < 64 → met.testBit y = true → Rch ags used f y
  grow : ∀ y, y < 64 → (met.testBit y = true ↔ met0.testBit y = true ∨ y ∈ next)
  fresh : ∀ y ∈ next, y < 64 ∧ met0.testBit y = false
  nodup : next.Nodup
  said : ∀ l ∈ pend, (∃ m : List UInt8, l = m ++ [255] ∧ (255 : UInt8) ∉ m) ∧ ∀ b ∈ l, b ≠ 255 → b.toNat < 64 ∧ Rch ags used f b.toNat
  due : ∀ x ∈ now, ∀ i ∈ canTo ags used x ags.length, met.testBit (putN (ags.getD i default) x) = true ∨ ∃ l ∈ pend, UInt8.ofNat (putN (ags.getD i default) x) ∈ l
theorem RIr.first (hf : f < 64) : RIr ags used f (0 ||| 1 <<< f) [f] := by
  have hb : ∀ y, (0 ||| 1 <<< f).testBit y = true ↔ y = f := fun y => by
    rw [testBit_or_one]
    simp
    exact eq_comm
  refine ⟨or_one_lt (by omega) hf, fun y _ h => ?_, (hb f).2 rfl, fun y hy => ?_, by simp, fun y _ h hn => ?_⟩
  · rw [(hb y).1 h]; exact .base
  · simp at hy; subst hy; exact ⟨hf, (hb y).2 rfl⟩
  · exact absurd (by simp [(hb y).1 h]) hn
theorem msgs_said (hok : Oks ags) {x : Nat} (hx : x < 64) (hr : Rch ags used f x) : (∃ m : List UInt8, msgs ags used x = m ++ [255] ∧ (255 : UInt8) ∉ m) ∧ ∀ b ∈ msgs ags used x, b ≠ 255 → b.toNat < 64 ∧ Rch ags used f b.toNat := by
  refine ⟨⟨_, rfl, fun h => ?_⟩, fun b hb hne => ?_⟩
  · obtain ⟨i, hi, e⟩ := List.mem_map.1 h
    exact ofNat_ne (putN_lt (ok_at hok hi) hx) e
  · rcases List.mem_append.1 hb with h | h
    · obtain ⟨i, hi, rfl⟩ := List.mem_map.1 h
      have := putN_lt (ok_at hok hi) hx
      rw [ofNat_toNat this]
      exact ⟨this, hr.step hi⟩
    · simp at h; exact absurd h hne
theorem RIr.start (hok : Oks ags) {met : Nat} {now : List Nat} (h : RIr ags used f met now) : RR ags used f met now met [] (now.map (msgs ags used)) := by
  refine ⟨h.lt, h.sound, fun y _ => by simp, fun y hy => by simp at hy, by simp, fun l hl => ?_, fun x hx i hi => ?_⟩
  · obtain ⟨x, hx, rfl⟩ := List.mem_map.1 hl
    exact msgs_said hok (h.sub x hx).1 (h.sound x (h.sub x hx).1 (h.sub x hx).2)
  · exact .inr ⟨_, List.mem_map.2 ⟨x, hx, rfl⟩, List.mem_append.2 (.inl (List.mem_map.2 ⟨i, hi, rfl⟩))⟩
section
variable {met0 met : Nat} {now next : List Nat} {pend : List (List UInt8)} {i : Nat} {b : UInt8} {l : List UInt8}
theorem RR.one (h : RR ags used f met0 now met next pend) (hl : pend[i]? = some (b :: l)) : (∃ m : List UInt8, b :: l = m ++ [255] ∧ (255 : UInt8) ∉ m) ∧ ∀ c ∈ b :: l, c ≠ 255 → c.toNat < 64 ∧ Rch ags used f c.toNat := h.said _ (List.mem_of_getElem? hl)
theorem said_tail {b : UInt8} {l : List UInt8} (h : ∃ m : List UInt8, b :: l = m ++ [255] ∧ (255 : UInt8) ∉ m) (hb : b ≠ 255) : ∃ m : List UInt8, l = m ++ [255] ∧ (255 : UInt8) ∉ m := by
  obtain ⟨m, h1, h2⟩ := h
  cases m with
  | nil => simp at h1; exact absurd h1.1 hb
  | cons y m =>
    simp only [List.cons_append, List.cons.injEq] at h1
    exact ⟨m, h1.2, fun hm => h2 (List.mem_cons_of_mem _ hm)⟩
theorem said_last {l : List UInt8} (h : ∃ m : List UInt8, (255 : UInt8) :: l = m ++ [255] ∧ (255 : UInt8) ∉ m) : l = [] := by
  obtain ⟨m, h1, h2⟩ := h
  cases m with
  | nil => simpa using h1
  | cons y m =>
    simp only [List.cons_append, List.cons.injEq] at h1
    exact absurd (by rw [← h1.1]; simp) h2
theorem mem_set_or {pend : List (List UInt8)} {i : Nat} {b : UInt8} {l k : List UInt8} (hl : pend[i]? = some (b :: l)) (hk : k ∈ pend) {c : UInt8} (hc : c ∈ k) : c = b ∨ ∃ k' ∈ pend.set i l, c ∈ k' := by
  obtain ⟨j, hj⟩ := List.mem_iff_getElem?.1 hk
  by_cases e : j = i
  · subst e
    rw [hl] at hj
    cases hj
    rcases List.mem_cons.1 hc with h | h
    · exact .inl h
    · exact .inr ⟨l, List.mem_iff_getElem?.2 ⟨j, List.getElem?_set_self (List.getElem?_eq_some_iff.1 hl).1⟩, h⟩
  · exact .inr ⟨k, List.mem_iff_getElem?.2 ⟨j, by rw [List.getElem?_set_ne (fun x => e x.symm)]; exact hj⟩, hc⟩
theorem RR.said_set (h : RR ags used f met0 now met next pend) (hl : pend[i]? = some (b :: l)) (hb : b ≠ 255) : ∀ k ∈ pend.set i l, (∃ m : List UInt8, k = m ++ [255] ∧ (255 : UInt8) ∉ m) ∧ ∀ b ∈ k, b ≠ 255 → b.toNat < 64 ∧ Rch ags used f b.toNat := by
  intro k hk
  rcases List.mem_or_eq_of_mem_set hk with h1 | rfl
  · exact h.said k h1
  · exact ⟨said_tail (h.one hl).1 hb, fun c hc => (h.one hl).2 c (List.mem_cons_of_mem _ hc)⟩
theorem RR.word (hok : Oks ags) (hnow : ∀ x ∈ now, x < 64) (h : RR ags used f met0 now met next pend) (hl : pend[i]? = some (b :: l)) (hb : b ≠ 255) (hm : met.testBit b.toNat = true) : RR ags used f met0 now met next (pend.set i l) := by
  refine ⟨h.lt, h.sound, h.grow, h.fresh, h.nodup, h.said_set hl hb, fun x hx j hj => ?_⟩
  rcases h.due x hx j hj with h1 | ⟨k, hk, hc⟩
  · exact .inl h1
  · rcases mem_set_or hl hk hc with h1 | h1
    · refine .inl ?_
      rw [← h1, ofNat_toNat (putN_lt (ok_at hok hj) (hnow x hx))] at hm
      exact hm
    · exact .inr h1
theorem RR.new (hok : Oks ags) (hnow : ∀ x ∈ now, x < 64) (h : RR ags used f met0 now met next pend) (hl : pend[i]? = some (b :: l)) (hb : b ≠ 255) (hm : met.testBit b.toNat = false) : RR ags used f met0 now (met ||| 1 <<< b.toNat) (next ++ [b.toNat]) (pend.set i l) := by
  obtain ⟨h1, h2⟩ := (h.one hl).2 b (by simp) hb
  have hbit : ∀ y, (met ||| 1 <<< b.toNat).testBit y = true ↔ met.testBit y = true ∨ y = b.toNat := fun y => by
    rw [testBit_or_one, Bool.or_eq_true, decide_eq_true_eq]
    exact or_congr_right eq_comm
  have hn : b.toNat ∉ next := fun hx => by
    have := (h.grow b.toNat h1).2 (.inr hx)
    rw [hm] at this
    cases this
  refine ⟨or_one_lt h.lt h1, fun y hy hyb => ?_, fun y hy => ?_, fun y hy => ?_, ?_, h.said_set hl hb, fun x hx j hj => ?_⟩
  · rcases (hbit y).1 hyb with h3 | rfl
    · exact h.sound y hy h3
    · exact h2
  · rw [hbit, h.grow y hy, List.mem_append, List.mem_singleton, or_assoc]
  · rcases List.mem_append.1 hy with h3 | h3
    · exact h.fresh y h3
    · simp at h3
      subst h3
      refine ⟨h1, ?_⟩
      cases hc : met0.testBit b.toNat with
      | false => rfl
      | true =>
        have := (h.grow _ h1).2 (.inl hc)
        rw [hm] at this
        cases this
  · rw [List.nodup_append]
    exact ⟨h.nodup, by simp, fun x hx y hy e => by simp at hy; subst hy; subst e; exact hn hx⟩
  · rcases h.due x hx j hj with h3 | ⟨k, hk, hc⟩
    · exact .inl ((hbit _).2 (.inl h3))
    · rcases mem_set_or hl hk hc with h3 | h3
      · refine .inl ((hbit _).2 (.inr ?_))
        rw [← h3, ofNat_toNat (putN_lt (ok_at hok hj) (hnow x hx))]
      · exact .inr h3
theorem RR.done (hok : Oks ags) (hnow : ∀ x ∈ now, x < 64) (h : RR ags used f met0 now met next pend) (hl : pend[i]? = some (255 :: l)) : RR ags used f met0 now met next (pend.eraseIdx i) := by
  refine ⟨h.lt, h.sound, h.grow, h.fresh, h.nodup, fun k hk => h.said k (List.mem_of_mem_eraseIdx hk), fun x hx j hj => ?_⟩
  rcases h.due x hx j hj with h1 | ⟨k, hk, hc⟩
  · exact .inl h1
  · obtain ⟨a, ha⟩ := List.mem_iff_getElem?.1 hk
    by_cases e : a = i
    · subst e
      rw [hl] at ha
      cases ha
      rw [said_last (h.one hl).1, List.mem_singleton] at hc
      exact absurd hc (ofNat_ne (putN_lt (ok_at hok hj) (hnow x hx)))
    · exact .inr ⟨k, List.mem_eraseIdx_iff_getElem?.2 ⟨a, e, ha⟩, hc⟩
theorem RR.over (h : RR ags used f met0 now met next []) (h0 : RIr ags used f met0 now) (hf : f < 64) : RIr ags used f met next := by
  refine ⟨h.lt, h.sound, (h.grow f hf).2 (.inl h0.self), fun y hy => ⟨(h.fresh y hy).1, (h.grow y (h.fresh y hy).1).2 (.inr hy)⟩, h.nodup, fun y hy hm hn i hi => ?_⟩
  have hm0 : met0.testBit y = true := ((h.grow y hy).1 hm).resolve_right hn
  by_cases hyn : y ∈ now
  · rcases h.due y hyn i hi with h1 | ⟨k, hk, _⟩
    · exact h1
    · cases hk
  · have h1 := h0.closed y hy hm0 hyn i hi
    by_cases h2 : putN (ags.getD i default) y < 64
    · exact (h.grow _ h2).2 (.inl h1)
    · have h3 : met0.testBit (putN (ags.getD i default) y) = false := Nat.testBit_lt_two_pow (Nat.lt_of_lt_of_le h0.lt (by
        show 2 ^ 64 ≤ _
        exact Nat.pow_le_pow_right (by decide) (by omega)))
      rw [h1] at h3
      cases h3
theorem RIr.final (hok : Oks ags) (hf : f < 64) (h : RIr ags used f met []) : SetN met (Rch ags used f) := by
  refine ⟨h.lt, fun y hy => ⟨h.sound y hy, fun hr => ?_⟩⟩
  have key : ∀ {y}, Rch ags used f y → met.testBit y = true := by
    intro y hr
    induction hr with
    | base => exact h.self
    | @step y i hr hi ih => exact h.closed y (hr.lt hok hf) ih (by simp) i hi
  exact key hr
/-- How many have not been met. -/
def unmet (met : Nat) : Nat := ((List.range 64).filter fun y => !met.testBit y).length
theorem filter_lt {q r : Nat → Bool} : ∀ {l : List Nat} {x : Nat}, x ∈ l → q x = false → r x = true → (∀ y ∈ l, q y = true → r y = true) → (l.filter q).length < (l.filter r).length
  | a :: l, x, hx, hq, hr, h => by
    have mono : ∀ (l : List Nat), (∀ y ∈ l, q y = true → r y = true) → (l.filter q).length ≤ (l.filter r).length := by
      intro l
      induction l with
      | nil => intro _; simp
      | cons b l ih =>
        intro h
        have h1 := ih fun y hy => h y (List.mem_cons_of_mem _ hy)
        have h2 := h b (by simp)
        cases hb : q b with
        | false => cases hrb : r b <;> simp [List.filter_cons, hb, hrb] <;> omega
        | true => simp [List.filter_cons, hb, h2 hb]; exact h1
    rcases List.mem_cons.1 hx with rfl | hx'
    · have := mono l fun y hy => h y (List.mem_cons_of_mem _ hy)
      simp [List.filter_cons, hq, hr]
      omega
    · have h1 := filter_lt hx' hq hr fun y hy => h y (List.mem_cons_of_mem _ hy)
      have h2 := h a (by simp)
      cases hb : q a with
      | false => cases hrb : r a <;> simp [List.filter_cons, hb, hrb] <;> omega
      | true => simp [List.filter_cons, hb, h2 hb]; exact h1
theorem RR.nearer (h : RR ags used f met0 now met next []) (hn : next ≠ []) : unmet met < unmet met0 := by
  cases hx : next with
  | nil => exact absurd hx hn
  | cons y ys =>
    have hy : y ∈ next := by rw [hx]; simp
    obtain ⟨h1, h2⟩ := h.fresh y hy
    refine filter_lt (x := y) (by simpa using h1) (by simp [(h.grow y h1).2 (.inr hy)]) (by simp [h2]) fun z hz hq => ?_
    have hz' : z < 64 := by simpa using hz
    cases hc : met0.testBit z with
    | false => rfl
    | true => simp [(h.grow z hz').2 (.inl hc)] at hq
end
end
end Go.Proofs.YtofkhehcnfiopaaDoor.N
namespace Go.Proofs.YtofkhehcnfiopaaDoor.N
open Go Go.RowKit Go.Conc
set_option autoImplicit false
set_option linter.unusedSectionVars false

/-! Workers that send on one channel, and one who receives: what each may ask of the others. -/

/-- Ghost state of whoever receives: the channel, the blocks that may only be read now, what each living worker has still to send. -/
structure Gst where
  c : Nat
  sl : List Nat
  pend : List (List UInt8)
def enc1 (l : List UInt8) : Nat × ByteArray := (0, ⟨l.toArray⟩)
def encN (n : Nat) : Nat × ByteArray := (n, ⟨#[]⟩)
def Gst.enc (x : Gst) : Array (Nat × ByteArray) := (encN x.c :: encN x.sl.length :: (x.sl.map encN ++ x.pend.map enc1)).toArray
theorem enc1_inj {l m : List UInt8} (h : enc1 l = enc1 m) : l = m := by
  unfold enc1 at h
  simp only [Prod.mk.injEq, ByteArray.mk.injEq, true_and] at h
  simpa using h
theorem encN_inj {l m : Nat} (h : encN l = encN m) : l = m := by
  unfold encN at h
  simpa using h
theorem map_inj {α β : Type} {f : α → β} (hf : ∀ a b, f a = f b → a = b) : ∀ {l m : List α}, l.map f = m.map f → l = m
  | [], [], _ => rfl
  | [], _ :: _, h => by simp at h
  | _ :: _, [], h => by simp at h
  | a :: l, b :: m, h => by
    simp only [List.map_cons, List.cons.injEq] at h
    rw [hf _ _ h.1, map_inj hf h.2]
theorem Gst.enc_inj {x y : Gst} (h : x.enc = y.enc) : x = y := by
  obtain ⟨c, sl, pend⟩ := x
  obtain ⟨c', sl', pend'⟩ := y
  have h1 := congrArg Array.toList h
  simp only [Gst.enc, List.cons.injEq] at h1
  obtain ⟨h2, h3, h4⟩ := h1
  have e1 := encN_inj h2
  have e2 := encN_inj h3
  have h5 := List.append_inj h4 (by rw [List.length_map, List.length_map, e2])
  rw [e1, map_inj (fun _ _ => encN_inj) h5.1, map_inj (fun _ _ => enc1_inj) h5.2]

/-- Blocks frozen, thawed, shown alone. -/
def Obj.chill : Obj → Obj
  | .cells c t _ => .cells c t (0, c.size)
  | o => o
def Obj.thaw : Obj → Obj
  | .cells c t _ => .cells c t (0, 0)
  | o => o
def blank : Obj := .cells #[] 0 (0, 0)
def chill (sl : List Nat) (v : World) : World := { v with heap := v.heap.mapIdx fun b o => if b ∈ sl then Obj.chill o else o }
def thaw (sl : List Nat) (v : World) : World := { v with heap := v.heap.mapIdx fun b o => if b ∈ sl then Obj.thaw o else o }
def onlyV (sl : List Nat) (v : World) : World := { v with heap := v.heap.mapIdx fun b o => if b ∈ sl then Obj.chill o else blank }
def saying (v : World) (o : Array (Nat × ByteArray)) : World := { v with output := o }
theorem heap_chill (sl : List Nat) (v : World) (b : Nat) : (chill sl v).heap[b]? = (v.heap[b]?).map fun o => if b ∈ sl then Obj.chill o else o := by simp [chill]
theorem heap_thaw (sl : List Nat) (v : World) (b : Nat) : (thaw sl v).heap[b]? = (v.heap[b]?).map fun o => if b ∈ sl then Obj.thaw o else o := by simp [thaw]
theorem heap_onlyV (sl : List Nat) (v : World) (b : Nat) : (onlyV sl v).heap[b]? = (v.heap[b]?).map fun o => if b ∈ sl then Obj.chill o else blank := by simp [onlyV]
theorem plain_chill {o : Obj} (h : notView o) : notView (Obj.chill o) := by cases o <;> first | exact h | trivial
theorem plain_thaw {o : Obj} (h : notView o) : notView (Obj.thaw o) := by cases o <;> first | exact h | trivial
/-- Rows of cells that can be handed out for reading: not frozen, or frozen whole. -/
def Givable (sl : List Nat) (v : World) : Prop := ∀ b ∈ sl, ∃ c t fz, v.heap[b]? = some (.cells c t fz) ∧ (fz = (0, 0) ∨ fz = (0, c.size)) ∧ 0 < c.size

section
variable {F S : Nat → Prop} {w v : World} {sl : List Nat}
theorem givable_shown (h : Hid F S w v) (hg : Givable sl v) : ∀ b ∈ sl, ¬ F b ∧ ∃ c t fz, v.heap[b]? = some (.cells c t fz) ∧ (fz = (0, 0) ∨ fz = (0, c.size)) ∧ 0 < c.size := by
  intro b hb
  obtain ⟨c, t, fz, h1, h2, h3⟩ := hg b hb
  refine ⟨fun hf => ?_, c, t, fz, h1, h2, h3⟩
  obtain ⟨t', fz', h4⟩ := h.away b hf
  rw [h1] at h4
  cases h4
  simp at h3
/-- Whoever hands blocks out for reading sees them frozen. -/
theorem Hid.chill (h : Hid F S w v) (hg : Givable sl v) : Hid F (fun b => S b ∨ b ∈ sl) w (chill sl v) := by
  have hs := givable_shown h hg
  refine ⟨h.tape, h.drawn, h.os, by simp [Go.Proofs.YtofkhehcnfiopaaDoor.N.chill, h.size], h.fitF, fun b hb => ?_, fun b hb => ?_, fun b hb hf => ?_, fun b hf hns => ?_, fun b o ho => ?_⟩
  · rcases hb with hb | hb
    · exact h.fitS b hb
    · obtain ⟨_, c, t, fz, h1, _⟩ := hs b hb
      rw [← h.size]
      exact (Array.getElem?_eq_some_iff.1 h1).1
  · obtain ⟨t, fz, h1⟩ := h.away b hb
    have hn : b ∉ sl := fun hm => (hs b hm).1 hb
    exact ⟨t, fz, by rw [heap_chill, h1]; simp [hn]⟩
  · by_cases hS : S b
    · obtain ⟨c, t, fz, h1, h2⟩ := h.still b hS hf
      exact ⟨c, t, fz, h1, by rw [heap_chill, h2]; by_cases hm : b ∈ sl <;> simp [hm, Obj.chill]⟩
    · have hm : b ∈ sl := hb.resolve_left hS
      obtain ⟨_, c, t, fz, h1, _⟩ := hs b hm
      exact ⟨c, t, fz, by rw [← h.same b hf hS]; exact h1, by rw [heap_chill, h1]; simp [hm, Obj.chill]⟩
  · rw [heap_chill, h.same b hf (fun x => hns (.inl x))]
    cases w.heap[b]? with
    | none => rfl
    | some o => simp [show b ∉ sl from fun x => hns (.inr x)]
  · rw [heap_chill] at ho
    cases hb : v.heap[b]? with
    | none => rw [hb] at ho; cases ho
    | some o' =>
      rw [hb] at ho
      have := h.plain b o' hb
      simp only [Option.map_some, Option.some.injEq] at ho
      subst ho
      split
      · exact plain_chill this
      · exact this
/-- What a worker is shown: these blocks, frozen, and nothing else. -/
theorem Hid.only (h : Hid F S w v) (hg : Givable sl v) : Hid (fun b => b < w.heap.size ∧ b ∉ sl) (fun b => b ∈ sl) w (onlyV sl v) := by
  have hs := givable_shown h hg
  have hlt : ∀ b ∈ sl, b < w.heap.size := fun b hb => by
    obtain ⟨_, c, t, fz, h1, _⟩ := hs b hb
    rw [← h.size]
    exact (Array.getElem?_eq_some_iff.1 h1).1
  refine ⟨h.tape, h.drawn, h.os, by simp [onlyV, h.size], fun b hb => hb.1, hlt, fun b hb => ?_, fun b hb _ => ?_, fun b hf hns => ?_, fun b o ho => ?_⟩
  · refine ⟨0, (0, 0), ?_⟩
    rw [heap_onlyV, Array.getElem?_eq_getElem (by rw [h.size]; exact hb.1)]
    simp [hb.2, blank]
  · obtain ⟨hF, c, t, fz, h1, _⟩ := hs b hb
    by_cases hS : S b
    · obtain ⟨c', t', fz', h2, h3⟩ := h.still b hS hF
      exact ⟨c', t', fz', h2, by rw [heap_onlyV, h3]; simp [hb, Obj.chill]⟩
    · exact ⟨c, t, fz, by rw [← h.same b hF hS]; exact h1, by rw [heap_onlyV, h1]; simp [hb, Obj.chill]⟩
  · have hge : w.heap.size ≤ b := by
      rcases Nat.lt_or_ge b w.heap.size with hl | hl
      · exact absurd ⟨hl, hns⟩ hf
      · exact hl
    rw [heap_onlyV, Array.getElem?_eq_none (by rw [h.size]; exact hge), Array.getElem?_eq_none hge]
    rfl
  · rw [heap_onlyV] at ho
    cases hb : v.heap[b]? with
    | none => rw [hb] at ho; cases ho
    | some o' =>
      rw [hb] at ho
      simp only [Option.map_some, Option.some.injEq] at ho
      subst ho
      split
      · exact plain_chill (h.plain b o' hb)
      · trivial
/-- Once nobody else reads them they may be written again. -/
theorem Hid.thaw (h : Hid F (fun b => b ∈ sl) w v) (hr : ∀ b ∈ sl, ¬ F b ∧ ∃ c t, w.heap[b]? = some (.cells c t (0, 0))) : Hid F (fun _ => False) w (thaw sl v) := by
  refine ⟨h.tape, h.drawn, h.os, by simp [Go.Proofs.YtofkhehcnfiopaaDoor.N.thaw, h.size], h.fitF, fun b hb => hb.elim, fun b hb => ?_, fun b hb => hb.elim, fun b hf _ => ?_, fun b o ho => ?_⟩
  · obtain ⟨t, fz, h1⟩ := h.away b hb
    have hn : b ∉ sl := fun hm => (hr b hm).1 hb
    exact ⟨t, fz, by rw [heap_thaw, h1]; simp [hn]⟩
  · by_cases hm : b ∈ sl
    · obtain ⟨c, t, fz, h1, h2⟩ := h.still b hm hf
      obtain ⟨_, c', t', h3⟩ := hr b hm
      rw [h3] at h1
      cases h1
      rw [heap_thaw, h2, h3]
      simp [hm, Obj.thaw]
    · rw [heap_thaw, h.same b hf hm]
      cases w.heap[b]? with
      | none => rfl
      | some o => simp [hm]
  · rw [heap_thaw] at ho
    cases hb : v.heap[b]? with
    | none => rw [hb] at ho; cases ho
    | some o' =>
      rw [hb] at ho
      simp only [Option.map_some, Option.some.injEq] at ho
      subst ho
      split
      · exact plain_thaw (h.plain b o' hb)
      · exact h.plain b o' hb
theorem Hid.saying (h : Hid F S w v) (o : Array (Nat × ByteArray)) : Hid F S w (Go.Proofs.YtofkhehcnfiopaaDoor.N.saying v o) := ⟨h.tape, h.drawn, h.os, h.size, h.fitF, h.fitS, h.away, h.still, h.same, h.plain⟩
end
end Go.Proofs.YtofkhehcnfiopaaDoor.N
namespace Go.Proofs.YtofkhehcnfiopaaDoor.N
open Go Go.RowKit Go.Conc
set_option autoImplicit false
set_option linter.unusedSectionVars false

/-- What is said on a channel: bytes, as values; one of them is a worker's last word. -/
structure Prot where
  msg : UInt8 → Value
  z : Value
  zr : Value
  done : UInt8
  low : Nat
/-- A block out of sight. -/
def hideB (c : Nat) (v : World) : World := { v with heap := v.heap.mapIdx fun b o => if b = c then blank else o }
theorem heap_hideB (c : Nat) (v : World) (b : Nat) : (hideB c v).heap[b]? = (v.heap[b]?).map fun o => if b = c then blank else o := by simp [hideB]
theorem Hid.hideB {F S : Nat → Prop} {w v : World} (h : Hid F S w v) {c : Nat} (hc : c < w.heap.size) (hS : ¬ S c) : Hid (fun b => F b ∨ b = c) S w (hideB c v) := by
  refine ⟨h.tape, h.drawn, h.os, by simp [Go.Proofs.YtofkhehcnfiopaaDoor.N.hideB, h.size], fun b hb => ?_, h.fitS, fun b hb => ?_, fun b hb hf => ?_, fun b hf hns => ?_, fun b o ho => ?_⟩
  · rcases hb with hb | rfl
    · exact h.fitF b hb
    · exact hc
  · rw [heap_hideB]
    by_cases e : b = c
    · subst e
      rw [Array.getElem?_eq_getElem (by rw [h.size]; exact hc)]
      exact ⟨0, (0, 0), by simp [blank]⟩
    · obtain ⟨t, fz, h1⟩ := h.away b (hb.resolve_right e)
      exact ⟨t, fz, by rw [h1]; simp [e]⟩
  · obtain ⟨c', t, fz, h1, h2⟩ := h.still b hb (fun x => hf (.inl x))
    exact ⟨c', t, fz, h1, by rw [heap_hideB, h2]; simp [show b ≠ c from fun e => hf (.inr e)]⟩
  · rw [heap_hideB, h.same b (fun x => hf (.inl x)) hns]
    cases w.heap[b]? with
    | none => rfl
    | some o => simp [show b ≠ c from fun e => hf (.inr e)]
  · rw [heap_hideB] at ho
    cases hb : v.heap[b]? with
    | none => rw [hb] at ho; cases ho
    | some o' =>
      rw [hb] at ho
      simp only [Option.map_some, Option.some.injEq] at ho
      subst ho
      split
      · trivial
      · exact h.plain b o' hb

/-- A worker on channel c: it may send what is next of what it has to say; behind its last word it only leaves. -/
abbrev wSys (P : Program) (K : Prot) (c : Nat) : Sys where
  main := false
  sy g v Nx := g.status = .running ∧ ∃ x l, v.output = #[enc1 (x :: l)] ∧
    (∀ F S w, Hid F S w v → ∃ es, stepG P false g w = .comm g #[scase c (K.msg x) K.z] true .send w es ∧ ∀ e ∈ es, EvOk F S w.heap.size e) ∧
    (x = K.done → ∃ n, QuitsD P n 0 (Go.Conc.served g undef)) ∧ Nx (Go.Conc.served g undef) (saying v #[enc1 l])
/-- It has said all, and only leaves. -/
def WStop (_P : Program) (_g : Goroutine) (v : World) : Prop := v.output = #[enc1 []]
def Works (P : Program) (K : Prot) (c : Nat) (g : Goroutine) (v : World) : Prop := @Gs P (wSys P K c) (WStop P) g v
/-- The last word comes last. -/
def Said (K : Prot) (l : List UInt8) : Prop := ∃ m, l = m ++ [K.done] ∧ K.done ∉ m
/-- Worker number i has said x. -/
def Gst.after (K : Prot) (s : Gst) (i : Nat) (x : UInt8) (l : List UInt8) : Gst := { s with pend := if x = K.done then s.pend.eraseIdx i else s.pend.set i l }
/-- The receiver: it hears one of the workers; starts a worker; or, once none is left, takes back what it had handed out. -/
abbrev mSys (P : Program) (K : Prot) : Sys where
  main := true
  sy g v Nx :=
    (g.status = .running ∧ ∃ s : Gst, v.output = s.enc ∧ s.pend ≠ [] ∧
      (∀ F S w, Hid F S w v → ∃ es, stepG P true g w = .comm g #[rcase s.c K.zr] true (.recv false) w es ∧ ∀ e ∈ es, EvOk F S w.heap.size e) ∧
      ∀ i x l, s.pend[i]? = some (x :: l) → Nx (Go.Conc.served g (K.msg x)) (saying v (s.after K i x l).enc)) ∨
    (g.status = .running ∧ ∃ (s : Gst) (c : Nat) (l : List UInt8) (sl : List Nat) (g' ch : Goroutine), v.output = s.enc ∧ ((s.pend = [] ∧ s.sl = [] ∧ v.heap[c]? = some (.chan 0 #[] false 0 0 false)) ∨ (s.pend ≠ [] ∧ s.c = c)) ∧
      K.low ≤ c ∧ c ∉ sl ∧ Givable sl v ∧ (∀ b ∈ sl, b ∈ s.sl ∨ ∃ cs t, v.heap[b]? = some (.cells cs t (0, 0))) ∧ Said K l ∧ g'.status = .running ∧
      (∀ F S w, Hid F S w v → ∃ es, stepG P true g w = .spawn g' ch w es ∧ ∀ e ∈ es, EvOk F S w.heap.size e) ∧
      Works P K c ch (saying (onlyV sl v) #[enc1 l]) ∧
      Nx g' (saying (hideB c (chill sl v)) (Gst.enc ⟨c, s.sl ++ sl, s.pend ++ [l]⟩))) ∨
    (g.status = .running ∧ ∃ s : Gst, v.output = s.enc ∧ s.pend = [] ∧ Nx g (saying (thaw s.sl v) (Gst.enc ⟨0, [], []⟩)))
end Go.Proofs.YtofkhehcnfiopaaDoor.N
namespace Go.Proofs.YtofkhehcnfiopaaDoor.N
open Go Go.RowKit Go.Conc
set_option autoImplicit false
set_option linter.unusedSectionVars false

/-! How far a goroutine has still to go: a tree of all that may come. -/
inductive Tr : Type
  | leaf
  | node (f : World × Goroutine × World → Tr)
def Tr.Lt (s : Tr) : Tr → Prop
  | .leaf => False
  | .node f => ∃ i, s = f i
theorem Tr.acc : ∀ t : Tr, Acc Tr.Lt t
  | .leaf => ⟨_, fun _ h => h.elim⟩
  | .node f => ⟨_, fun s h => by obtain ⟨i, rfl⟩ := h; exact Tr.acc (f i)⟩
/-- The same as Gs, the tree in sight. -/
inductive GsT (P : Program) (I : Sys) (Stop : Goroutine → World → Prop) : Tr → Goroutine → World → Prop
  | stop {t : Tr} {g : Goroutine} {v : World} (h : ∀ v₁, Rl v v₁ → Stop g v₁) : GsT P I Stop t g v
  | step {f : World × Goroutine × World → Tr} {g : Goroutine} {v : World} (hr : g.status = .running) (nx : World → Goroutine × World × Array Event)
      (h : ∀ v₁, Rl v v₁ → Stp P I.main g v₁ (nx v₁).1 (nx v₁).2.1 (nx v₁).2.2) (k : ∀ v₁, Rl v v₁ → GsT P I Stop (f (v₁, (nx v₁).1, (nx v₁).2.1)) (nx v₁).1 (nx v₁).2.1) : GsT P I Stop (.node f) g v
  | sync {f : World × Goroutine × World → Tr} {g : Goroutine} {v : World} (nx : World → Goroutine → World → Prop)
      (h : ∀ v₁, Rl v v₁ → I.sy g v₁ (nx v₁)) (k : ∀ v₁, Rl v v₁ → ∀ g' v', nx v₁ g' v' → GsT P I Stop (f (v₁, g', v')) g' v') : GsT P I Stop (.node f) g v
section
variable {P : Program} {I : Sys} {Stop : Goroutine → World → Prop} {g : Goroutine} {v v' : World}
theorem gs_tree (h : @Gs P I Stop g v) : ∃ t, GsT P I Stop t g v := by
  classical
  induction h with
  | stop h => exact ⟨.leaf, .stop h⟩
  | step hr nx h _ ih =>
    refine ⟨.node fun i => if hv : Rl _ i.1 then (ih i.1 hv).choose else .leaf, .step hr nx h fun v₁ h1 => ?_⟩
    have := (ih v₁ h1).choose_spec
    simpa [h1] using this
  | sync nx h _ ih =>
    refine ⟨.node fun i => if hv : Rl _ i.1 ∧ nx i.1 i.2.1 i.2.2 then (ih i.1 hv.1 i.2.1 i.2.2 hv.2).choose else .leaf, .sync nx h fun v₁ h1 g' v' hn => ?_⟩
    have := (ih v₁ h1 g' v' hn).choose_spec
    simpa [h1, hn] using this
theorem GsT.rely {t : Tr} (h : GsT P I Stop t g v) (hr : Rl v v') : GsT P I Stop t g v' := by
  cases h with
  | stop h => exact .stop fun v₁ h1 => h v₁ (hr.trans h1)
  | step hs nx h k => exact .step hs nx (fun v₁ h1 => h v₁ (hr.trans h1)) (fun v₁ h1 => k v₁ (hr.trans h1))
  | sync nx h k => exact .sync nx (fun v₁ h1 => h v₁ (hr.trans h1)) (fun v₁ h1 => k v₁ (hr.trans h1))
end

/-! The measure of one: its tree, and whether it is parked; or how many steps it has to leave. -/
inductive Mt : Type
  | live (t : Tr) (running : Bool)
  | quits (n : Nat)
inductive Mt.Lt : Mt → Mt → Prop
  | tree {s t : Tr} {a b : Bool} (h : Tr.Lt s t) : Mt.Lt (.live s a) (.live t b)
  | park {t : Tr} : Mt.Lt (.live t false) (.live t true)
  | said {t : Tr} {a : Bool} {n : Nat} : Mt.Lt (.quits n) (.live t a)
  | quits {m n : Nat} (h : m < n) : Mt.Lt (.quits m) (.quits n)
theorem Mt.acc_quits (n : Nat) : Acc Mt.Lt (.quits n) := by
  induction n using Nat.strongRecOn with
  | _ n ih => exact ⟨_, fun y h => by cases h with | quits h => exact ih _ h⟩
theorem Mt.acc : ∀ m : Mt, Acc Mt.Lt m
  | .quits n => Mt.acc_quits n
  | .live t b => by
    have key : ∀ t, (∀ s, Tr.Lt s t → ∀ b, Acc Mt.Lt (.live s b)) → ∀ b, Acc Mt.Lt (.live t b) := by
      intro t ih
      have h0 : Acc Mt.Lt (.live t false) := ⟨_, fun y h => by
        cases h with
        | tree h => exact ih _ h _
        | said => exact Mt.acc_quits _⟩
      intro b
      cases b with
      | false => exact h0
      | true => exact ⟨_, fun y h => by
          cases h with
          | tree h => exact ih _ h _
          | park => exact h0
          | said => exact Mt.acc_quits _⟩
    have all : ∀ b, Acc Mt.Lt (.live t b) := by
      induction Tr.acc t with
      | intro t _ ih => exact key t ih
    exact all b
/-- One of several goes on. -/
inductive Ls : List Mt → List Mt → Prop
  | head {a b : Mt} (l : List Mt) (h : Mt.Lt a b) : Ls (a :: l) (b :: l)
  | tail (a : Mt) {l m : List Mt} (h : Ls l m) : Ls (a :: l) (a :: m)
theorem Ls.acc_cons {a : Mt} (h1 : Acc Mt.Lt a) : ∀ {l : List Mt}, Acc Ls l → Acc Ls (a :: l) := by
  induction h1 with
  | intro a _ iha =>
    intro l h2
    induction h2 with
    | intro l hl ihl =>
      refine ⟨_, fun y h => ?_⟩
      cases h with
      | head _ h => exact iha _ h ⟨l, hl⟩
      | tail _ h => exact ihl _ h
theorem Ls.acc : ∀ l : List Mt, Acc Ls l
  | [] => ⟨_, fun _ h => by cases h⟩
  | a :: l => Ls.acc_cons (Mt.acc a) (Ls.acc l)
theorem Ls.set : ∀ {l : List Mt} {i : Nat} {a b : Mt}, l[i]? = some b → Mt.Lt a b → Ls (l.set i a) l
  | [], _, _, _, h, _ => by simp at h
  | c :: l, 0, a, b, h, hl => by
    simp at h
    subst h
    exact .head l hl
  | c :: l, i + 1, a, b, h, hl => .tail c (Ls.set (by simpa using h) hl)
end Go.Proofs.YtofkhehcnfiopaaDoor.N
namespace Go.Proofs.YtofkhehcnfiopaaDoor.N
open Go Go.RowKit Go.Conc
set_option autoImplicit false
set_option linter.unusedSectionVars false

/-! The trace: what each of the living may write and read, and knows. -/
def blkOf : Loc → Option Nat
  | .cell a => some a.block
  | .obj r => some r
  | _ => none
structure Pt (Liv : Nat → Prop) (F S : Nat → Nat → Prop) (B : Nat) (t : Trace) : Prop where
  clean : ∀ said, ¬ Race said t
  perm : ∀ g, Liv g → ∀ i a b, touchAt t i = some a → blkOf a.loc = some b → ¬ F g b → ¬ S g b → Knows t g i
  wrote : ∀ g, Liv g → ∀ i a b, touchAt t i = some a → a.write = true → blkOf a.loc = some b → ¬ F g b → Knows t g i
  known : ∀ i a, touchAt t i = some a → a.loc.isMemory = true → Knows t 0 i ∨ ∃ g, t.g? i = some g ∧ Liv g
  hears : ∀ g, Liv g → Deaf t g = 0
  seen : ∀ op ∈ t, op.act.low B
/-- What one may write is hidden from every other. -/
def Apt (Liv : Nat → Prop) (F S : Nat → Nat → Prop) (B : Nat) : Prop := ∀ g g', Liv g → Liv g' → g ≠ g' → ∀ b, b < B → ¬ F g b → ¬ S g b → F g' b
theorem low_touch {B : Nat} {op : MemOp} {a : Touch} {b : Nat} (hl : op.act.low B) (hxa : op.act.touch? = some a) (hb : blkOf a.loc = some b) : b < B := by
  obtain ⟨_, _, _, act⟩ := op
  cases act with
  | access e =>
    simp only [MemAct.touch?, Option.some.injEq] at hxa
    subst hxa
    obtain ⟨loc, _, _⟩ := e
    cases loc <;> first | (cases hb; exact hl) | cases hb
  | mark m =>
    cases m with
    | read a' => simp only [MemAct.touch?, Option.some.injEq] at hxa; subst hxa; cases hb; exact hl
    | write a' => simp only [MemAct.touch?, Option.some.injEq] at hxa; subst hxa; cases hb; exact hl
    | _ => cases hxa
  | _ => cases hxa
section
variable {Liv : Nat → Prop} {F S F' S' : Nat → Nat → Prop} {B B' : Nat} {t u : Trace}
theorem blkOf_memory {l : Loc} {b : Nat} (h : blkOf l = some b) : l.isMemory = true := by cases l <;> first | rfl | cases h
theorem Pt.mono (h : Pt Liv F S B t) (hF : ∀ g b, Liv g → F g b → F' g b) (hS : ∀ g b, Liv g → ¬ F' g b → S g b → S' g b) (hB : B ≤ B') : Pt Liv F' S' B' t :=
  ⟨h.clean, fun g hg i a b h1 h2 h3 h4 => h.perm g hg i a b h1 h2 (fun x => h3 (hF g b hg x)) (fun x => h4 (hS g b hg h3 x)), fun g hg i a b h1 h2 h3 h4 => h.wrote g hg i a b h1 h2 h3 (fun x => h4 (hF g b hg x)), h.known, h.hears, fun op hop => MemAct.low_mono hB (h.seen op hop)⟩
/-- What is touched: read where it is not hidden, written where it is neither hidden nor shared. -/
def TchOk (F S : Nat → Prop) (a : Touch) : Prop := ∀ b, blkOf a.loc = some b → ¬ F b ∧ (a.write = true → ¬ S b)
/-- One of the living takes steps of its own. -/
theorem Pt.own {g : Nat} (h : Pt Liv F S B t) (ha : Apt Liv F S B) (hg : Liv g) (hu : ∀ op ∈ u, op.g = g) (ht : ∀ op ∈ u, ∀ a, op.act.touch? = some a → TchOk (F g) (S g) a ∧ (a.loc.isMemory = true → ∃ b, blkOf a.loc = some b)) (hd : Deaf (t ++ u) g = Deaf t g) (hl : ∀ op ∈ u, op.act.low B) : Pt Liv F S B (t ++ u) := by
  refine ⟨fun said => noRace_append (h.clean said) hu fun i a hi op hop b hb hc => ?_, fun g' hg' i a b hi hb hF hS => ?_, fun g' hg' i a b hi hw hb hF => ?_, fun i a hi hm => ?_, fun g' hg' => ?_, seen_app h.seen hl⟩
  · obtain ⟨h1, h2⟩ := ht op hop b hb
    obtain ⟨hloc, hmem, hwr, _⟩ := hc
    obtain ⟨bk, hbk⟩ := h2 (hloc ▸ hmem)
    obtain ⟨hF, hS⟩ := h1 bk hbk
    rcases hwr with x | x
    · exact h.wrote g hg i a bk hi x (by rw [hloc]; exact hbk) hF
    · exact h.perm g hg i a bk hi (by rw [hloc]; exact hbk) hF (hS x)
  · obtain ⟨x, hx, hxa⟩ := touch_of hi
    rcases getElem?_append_cases hx with ⟨_, hx'⟩ | ⟨_, hxu⟩
    · exact (h.perm g' hg' i a b (by rw [touchAt_of hx']; exact hxa) hb hF hS).app u
    · by_cases e : g' = g
      · subst e
        have := knows_own hx
        rwa [hu x hxu] at this
      · exact absurd (ha g' g hg' hg e b (low_touch (hl x hxu) hxa hb) hF hS) ((ht x hxu a hxa).1 b hb).1
  · obtain ⟨x, hx, hxa⟩ := touch_of hi
    rcases getElem?_append_cases hx with ⟨_, hx'⟩ | ⟨_, hxu⟩
    · exact (h.wrote g' hg' i a b (by rw [touchAt_of hx']; exact hxa) hw hb hF).app u
    · by_cases e : g' = g
      · subst e
        have := knows_own hx
        rwa [hu x hxu] at this
      · obtain ⟨h1, h2⟩ := (ht x hxu a hxa).1 b hb
        exact absurd (ha g g' hg hg' (Ne.symm e) b (low_touch (hl x hxu) hxa hb) h1 (h2 hw)) hF
  · obtain ⟨x, hx, hxa⟩ := touch_of hi
    rcases getElem?_append_cases hx with ⟨hlt, hx'⟩ | ⟨_, hxu⟩
    · exact (h.known i a (by rw [touchAt_of hx']; exact hxa) hm).imp (·.app u) fun ⟨g', h1, h2⟩ => ⟨g', by rw [g?_old hlt]; exact h1, h2⟩
    · exact .inr ⟨g, by rw [g?_of hx, hu x hxu], hg⟩
  · by_cases e : g' = g
    · subst e; exact hd.trans (h.hears g' hg')
    · exact (Deaf_other t (fun x => e x.symm) u hu).trans (h.hears g' hg')
/-- Somebody who is not among the living says something mute. -/
theorem Pt.mute {g : Nat} (h : Pt Liv F S B t) (hg : ¬ Liv g) (hu : ∀ op ∈ u, op.g = g) (hn : ∀ op ∈ u, op.act.touch? = none) (hl : ∀ op ∈ u, op.act.low B) : Pt Liv F S B (t ++ u) := by
  refine ⟨fun said => noRace_appendMute (h.clean said) hn, fun g' hg' i a b hi hb hF hS => ?_, fun g' hg' i a b hi hw hb hF => ?_, fun i a hi hm => ?_, fun g' hg' => ?_, seen_app h.seen hl⟩
  · obtain ⟨x, hx, hxa⟩ := touch_of hi
    rcases getElem?_append_cases hx with ⟨_, hx'⟩ | ⟨_, hxu⟩
    · exact (h.perm g' hg' i a b (by rw [touchAt_of hx']; exact hxa) hb hF hS).app u
    · rw [hn x hxu] at hxa; cases hxa
  · obtain ⟨x, hx, hxa⟩ := touch_of hi
    rcases getElem?_append_cases hx with ⟨_, hx'⟩ | ⟨_, hxu⟩
    · exact (h.wrote g' hg' i a b (by rw [touchAt_of hx']; exact hxa) hw hb hF).app u
    · rw [hn x hxu] at hxa; cases hxa
  · obtain ⟨x, hx, hxa⟩ := touch_of hi
    rcases getElem?_append_cases hx with ⟨hlt, hx'⟩ | ⟨_, hxu⟩
    · exact (h.known i a (by rw [touchAt_of hx']; exact hxa) hm).imp (·.app u) fun ⟨g', h1, h2⟩ => ⟨g', by rw [g?_old hlt]; exact h1, h2⟩
    · rw [hn x hxu] at hxa; cases hxa
  · have hne : g ≠ g' := fun x => hg (by rw [x]; exact hg')
    exact (Deaf_other t hne u hu).trans (h.hears g' hg')
/-- A word of j's is heard by goroutine 0: it knows all that j knew; j may be among the living still, or not. -/
theorem Pt.met {j : Nat} {Liv' : Nat → Prop} (h : Pt Liv F S B t) (h0 : Liv 0) (hj : Liv j) (hL : ∀ g, Liv' g → Liv g) (hL' : ∀ g, Liv g → g ≠ j → Liv' g) (fh : FuncId) (ph : String) (fj : FuncId) (pj : String) {c : Nat} (k cap : Nat) (hc : c < B) :
    Pt Liv' F S B (t ++ Go.Conc.met j 0 fh ph fj pj c k cap) := by
  have hn := met_mute j 0 fh ph fj pj c k cap
  have hq := met_quiet j 0 fh ph fj pj c k cap
  have e0 : (t ++ Go.Conc.met j 0 fh ph fj pj c k cap)[t.size]? = some { g := j, fn := fh, pos := ph, act := .send c k } := by simp [Go.Conc.met]
  have e3 : (t ++ Go.Conc.met j 0 fh ph fj pj c k cap)[t.size + 3]? = some { g := 0, fn := fj, pos := pj, act := .recvDone c k } := by simp [Go.Conc.met]
  have edge : HappensBefore (t ++ Go.Conc.met j 0 fh ph fj pj c k cap) t.size (t.size + 3) :=
    Relation.TransGen.single (.inr ⟨.handOver (act?_of e0) (act?_of e3), ⟨j, g?_of e0, by rw [deaf_old (Nat.le_refl _)]; exact h.hears j hj⟩, ⟨0, g?_of e3, by rw [deaf_quiet (hq 0) 3 (by simp [Go.Conc.met])]; exact h.hears 0 h0⟩⟩)
  have pass : ∀ i, Knows t j i → Knows (t ++ Go.Conc.met j 0 fh ph fj pj c k cap) 0 i := fun i hk => ⟨t.size + 3, _, e3, rfl, .inr ((hk.hb_new (Nat.le_refl _) e0 rfl).trans edge)⟩
  refine ⟨fun said => noRace_appendMute (h.clean said) hn, fun g' hg' i a b hi hb hF hS => ?_, fun g' hg' i a b hi hw hb hF => ?_, fun i a hi hm => ?_, fun g' hg' => (Deaf_quiet (hq g')).trans (h.hears g' (hL g' hg')), seen_app h.seen fun op hop => ?_⟩
  · obtain ⟨x, hx, hxa⟩ := touch_of hi
    rcases getElem?_append_cases hx with ⟨_, hx'⟩ | ⟨_, hxu⟩
    · exact (h.perm g' (hL g' hg') i a b (by rw [touchAt_of hx']; exact hxa) hb hF hS).app _
    · rw [hn x hxu] at hxa; cases hxa
  · obtain ⟨x, hx, hxa⟩ := touch_of hi
    rcases getElem?_append_cases hx with ⟨_, hx'⟩ | ⟨_, hxu⟩
    · exact (h.wrote g' (hL g' hg') i a b (by rw [touchAt_of hx']; exact hxa) hw hb hF).app _
    · rw [hn x hxu] at hxa; cases hxa
  · obtain ⟨x, hx, hxa⟩ := touch_of hi
    rcases getElem?_append_cases hx with ⟨hlt, hx'⟩ | ⟨_, hxu⟩
    · rcases h.known i a (by rw [touchAt_of hx']; exact hxa) hm with h1 | ⟨g', h1, h2⟩
      · exact .inl (h1.app _)
      · by_cases e : g' = j
        · subst e
          have := knows_own hx'
          rw [show x.g = g' from by have := g?_of hx'; rw [h1] at this; exact (Option.some.inj this).symm] at this
          exact .inl (pass i this)
        · exact .inr ⟨g', by rw [g?_old hlt]; exact h1, hL' g' h2 e⟩
    · rw [hn x hxu] at hxa; cases hxa
  · simp only [Go.Conc.met, List.mem_toArray, List.mem_cons, List.not_mem_nil, or_false] at hop
    rcases hop with rfl | rfl | rfl | rfl <;> exact hc
/-- Goroutine 0 starts one more, which may write nothing yet. -/
theorem Pt.hire {c : Nat} {Fc Sc : Nat → Prop} (h : Pt Liv F S B t) (h0 : Liv 0) (hc : ¬ Liv c) (hc0 : Deaf t c = 0) (hsee : ∀ b, b < B → ¬ Fc b → Sc b ∧ ¬ F 0 b) (fh : FuncId) (ph : String) (fc : FuncId) :
    Pt (fun g => Liv g ∨ g = c) (fun g b => if g = c then Fc b else F g b) (fun g b => if g = c then Sc b else S g b) B (t ++ #[{ g := 0, fn := fh, pos := ph, act := .go c }, { g := c, fn := fc, pos := ph, act := .start }]) := by
  generalize hu : (#[{ g := 0, fn := fh, pos := ph, act := .go c }, { g := c, fn := fc, pos := ph, act := .start }] : Trace) = u
  have hn : ∀ op ∈ u, op.act.touch? = none := by
    intro op hop
    subst hu
    simp only [List.mem_toArray, List.mem_cons, List.not_mem_nil, or_false] at hop
    rcases hop with rfl | rfl <;> rfl
  have hq : ∀ g, ∀ op ∈ u, ∀ d, deafStep g d op = d := by
    intro g op hop d
    subst hu
    simp only [List.mem_toArray, List.mem_cons, List.not_mem_nil, or_false] at hop
    rcases hop with rfl | rfl <;> rfl
  have e0 : (t ++ u)[t.size]? = some { g := 0, fn := fh, pos := ph, act := .go c } := by subst hu; simp
  have e1 : (t ++ u)[t.size + 1]? = some { g := c, fn := fc, pos := ph, act := .start } := by subst hu; simp
  have edge : HappensBefore (t ++ u) t.size (t.size + 1) :=
    Relation.TransGen.single (.inr ⟨.spawn (act?_of e0) (act?_of e1) (g?_of e1), ⟨0, g?_of e0, by rw [deaf_old (Nat.le_refl _)]; exact h.hears 0 h0⟩, ⟨c, g?_of e1, by rw [deaf_quiet (hq c) 1 (by subst hu; simp)]; exact hc0⟩⟩)
  have low : ∀ i a b, touchAt t i = some a → blkOf a.loc = some b → b < B := fun i a b hi hb => by
    obtain ⟨x, hx, hxa⟩ := touch_of hi
    have hl := h.seen x (Array.mem_of_getElem? hx)
    obtain ⟨_, _, _, act⟩ := x
    cases act with
    | access e =>
      simp only [MemAct.touch?, Option.some.injEq] at hxa
      subst hxa
      obtain ⟨loc, _, _⟩ := e
      cases loc <;> first | (cases hb; exact hl) | cases hb
    | mark m =>
      cases m with
      | read a' => simp only [MemAct.touch?, Option.some.injEq] at hxa; subst hxa; cases hb; exact hl
      | write a' => simp only [MemAct.touch?, Option.some.injEq] at hxa; subst hxa; cases hb; exact hl
      | _ => cases hxa
    | _ => cases hxa
  refine ⟨fun said => noRace_appendMute (h.clean said) hn, fun g' hg' i a b hi hb hF hS => ?_, fun g' hg' i a b hi hw hb hF => ?_, fun i a hi hm => ?_, fun g' hg' => (Deaf_quiet (hq g')).trans (hg'.elim (h.hears g') fun e => e ▸ hc0), seen_app h.seen fun op hop => ?_⟩
  · obtain ⟨x, hx, hxa⟩ := touch_of hi
    rcases getElem?_append_cases hx with ⟨_, hx'⟩ | ⟨_, hxu⟩
    · have hi' : touchAt t i = some a := by rw [touchAt_of hx']; exact hxa
      by_cases e : g' = c
      · subst e
        simp only [if_true] at hF hS
        exact absurd (hsee b (low i a b hi' hb) hF).1 hS
      · simp only [e, if_false] at hF hS
        exact (h.perm g' (hg'.resolve_right e) i a b hi' hb hF hS).app u
    · rw [hn x hxu] at hxa; cases hxa
  · obtain ⟨x, hx, hxa⟩ := touch_of hi
    rcases getElem?_append_cases hx with ⟨_, hx'⟩ | ⟨_, hxu⟩
    · have hi' : touchAt t i = some a := by rw [touchAt_of hx']; exact hxa
      by_cases e : g' = c
      · subst e
        simp only [if_true] at hF
        have hold := h.wrote 0 h0 i a b hi' hw hb (hsee b (low i a b hi' hb) hF).2
        exact ⟨t.size + 1, _, e1, rfl, .inr ((hold.hb_new (Nat.le_refl _) e0 rfl).trans edge)⟩
      · simp only [e, if_false] at hF
        exact (h.wrote g' (hg'.resolve_right e) i a b hi' hw hb hF).app u
    · rw [hn x hxu] at hxa; cases hxa
  · obtain ⟨x, hx, hxa⟩ := touch_of hi
    rcases getElem?_append_cases hx with ⟨hlt, hx'⟩ | ⟨_, hxu⟩
    · exact (h.known i a (by rw [touchAt_of hx']; exact hxa) hm).imp (·.app u) fun ⟨g', h1, h2⟩ => ⟨g', by rw [g?_old hlt]; exact h1, .inl h2⟩
    · rw [hn x hxu] at hxa; cases hxa
  · subst hu
    simp only [List.mem_toArray, List.mem_cons, List.not_mem_nil, or_false] at hop
    rcases hop with rfl | rfl <;> trivial
/-- Nobody but goroutine 0 lives: it knows every touch, and may write what it had handed out. -/
theorem Pt.settle (h : Pt Liv F S B t) (hL : ∀ g, Liv g → g = 0) : Pt Liv F (fun _ _ => False) B t := by
  refine ⟨h.clean, fun g hg i a b hi hb _ _ => ?_, h.wrote, h.known, h.hears, h.seen⟩
  rw [hL g hg]
  rcases h.known i a hi (blkOf_memory hb) with h1 | ⟨g', h1, h2⟩
  · exact h1
  · obtain ⟨x, hx, _⟩ := touch_of hi
    have := knows_own hx
    rw [show x.g = 0 from by have := g?_of hx; rw [h1, hL g' h2] at this; exact (Option.some.inj this).symm] at this
    exact this
end
end Go.Proofs.YtofkhehcnfiopaaDoor.N
namespace Go.Proofs.YtofkhehcnfiopaaDoor.N
open Go Go.RowKit Go.Conc
set_option autoImplicit false
set_option linter.unusedSectionVars false

/-! What one sees when others have gone on. -/
def grown (v w₁ : World) : World := { v with heap := v.heap ++ Array.replicate (w₁.heap.size - v.heap.size) blank, drawn := w₁.drawn }
theorem heap_grown_old {v w₁ : World} {b : Nat} (h : b < v.heap.size) : (grown v w₁).heap[b]? = v.heap[b]? := by simp [grown, Array.getElem?_append, h]
theorem heap_grown_new {v w₁ : World} {b : Nat} (h : v.heap.size ≤ b) (h1 : b < w₁.heap.size) : (grown v w₁).heap[b]? = some blank := by
  have e : ¬ b < v.heap.size := by omega
  simp only [grown, Array.getElem?_append, e, if_false]
  rw [Array.getElem?_replicate]
  rw [if_pos (by omega)]
theorem Rl.grown {v w₁ : World} : Rl v (grown v w₁) := ⟨rfl, rfl, rfl, by simp [Go.Proofs.YtofkhehcnfiopaaDoor.N.grown], fun _ hk => heap_grown_old hk⟩
/-- What is new is nobody's but theirs. -/
def more (F : Nat → Prop) (w w₁ : World) (b : Nat) : Prop := F b ∨ (w.heap.size ≤ b ∧ b < w₁.heap.size)
theorem Hid.others {F S : Nat → Prop} {w w₁ v : World} (h : Hid F S w v) (hos : w₁.os = w.os) (ht : w₁.tape = w.tape) (hs : w.heap.size ≤ w₁.heap.size) (hb : ∀ b, b < w.heap.size → ¬ F b → w₁.heap[b]? = w.heap[b]?) :
    Hid (more F w w₁) S w₁ (grown v w₁) := by
  refine ⟨h.tape.trans ht.symm, rfl, h.os.trans hos.symm, ?_, fun b hb => ?_, fun b hb => Nat.lt_of_lt_of_le (h.fitS b hb) hs, fun b hF => ?_, fun b hS hF => ?_, fun b hF hS => ?_, fun b o ho => ?_⟩
  · simp [grown, h.size]; omega
  · exact hb.elim (fun x => Nat.lt_of_lt_of_le (h.fitF b x) hs) (·.2)
  · rcases hF with hF | hF
    · rw [heap_grown_old (by rw [h.size]; exact h.fitF b hF)]
      exact h.away b hF
    · exact ⟨0, (0, 0), by rw [heap_grown_new (by rw [h.size]; exact hF.1) hF.2]; rfl⟩
  · have hlt := h.fitS b hS
    obtain ⟨c, t, fz, h1, h2⟩ := h.still b hS (fun x => hF (.inl x))
    exact ⟨c, t, fz, by rw [hb b hlt (fun x => hF (.inl x))]; exact h1, by rw [heap_grown_old (by rw [h.size]; exact hlt)]; exact h2⟩
  · rcases Nat.lt_or_ge b w.heap.size with hlt | hge
    · rw [heap_grown_old (by rw [h.size]; exact hlt), h.same b (fun x => hF (.inl x)) hS, hb b hlt (fun x => hF (.inl x))]
    · have h1 : w₁.heap.size ≤ b := by
        rcases Nat.lt_or_ge b w₁.heap.size with x | x
        · exact absurd (.inr ⟨hge, x⟩) hF
        · exact x
      rw [Array.getElem?_eq_none h1, Array.getElem?_eq_none]
      simp [grown, h.size]
      omega
  · rcases Nat.lt_or_ge b v.heap.size with hlt | hge
    · rw [heap_grown_old hlt] at ho
      exact h.plain b o ho
    · rcases Nat.lt_or_ge b w₁.heap.size with x | x
      · rw [heap_grown_new hge x] at ho
        cases ho
        trivial
      · rw [Array.getElem?_eq_none (by simp [grown]; omega)] at ho
        cases ho
/-- Somebody else has gone a step of his own. -/
theorem Hid.beside {F S Fi Si : Nat → Prop} {w w₁ v : World} (h : Hid F S w v) (hk : Kept Fi Si w w₁) (ha : ∀ b, b < w.heap.size → ¬ Fi b → ¬ Si b → F b) : Hid (more F w w₁) S w₁ (grown v w₁) :=
  h.others hk.os hk.tape hk.size fun b hb hF => hk.block b hb (by
    by_cases h1 : Fi b
    · exact .inl h1
    · by_cases h2 : Si b
      · exact .inr h2
      · exact absurd (ha b hb h1 h2) hF)
/-- Draws alone. -/
theorem Hid.drew {F S : Nat → Prop} {w v : World} (h : Hid F S w v) (d : Nat) : Hid F S (w.at d) (v.at d) :=
  ⟨h.tape, rfl, h.os, h.size, h.fitF, h.fitS, h.away, h.still, h.same, h.plain⟩
theorem Rl.drew (v : World) (d : Nat) : Rl v (v.at d) := ⟨rfl, rfl, rfl, Nat.le_refl _, fun _ _ => rfl⟩
/-- The channel has gone on, out of sight. -/
theorem Hid.chan {F S : Nat → Prop} {w v : World} (h : Hid F S w v) {c : Nat} (hc : F c) (cap : Nat) (buf : Array Value) (cl : Bool) (s r : Nat) (tm : Bool) : Hid F S (w.setChan c cap buf cl s r tm) v := by
  have hb : ∀ b, ¬ F b → (w.setChan c cap buf cl s r tm).heap[b]? = w.heap[b]? := fun b hF => by
    have e : c ≠ b := fun e => by subst e; exact hF hc
    show (w.heap.setIfInBounds c (Obj.chan cap buf cl s r tm))[b]? = _
    rw [Array.getElem?_setIfInBounds_ne e]
  refine ⟨h.tape, h.drawn, h.os, by simp [World.setChan, h.size], fun b hb => by simpa [World.setChan] using h.fitF b hb, fun b hb => by simpa [World.setChan] using h.fitS b hb, h.away, fun b hS hF => ?_, fun b hF hS => ?_, h.plain⟩
  · obtain ⟨c', t, fz, h1, h2⟩ := h.still b hS hF
    exact ⟨c', t, fz, by rw [hb b hF]; exact h1, h2⟩
  · rw [hb b hF]; exact h.same b hF hS

/-! What a step lists is what the trace's law allows. -/
def Fair (F S : Nat → Prop) (B : Nat) (op : MemOp) : Prop :=
  (∀ a, op.act.touch? = some a → TchOk F S a ∧ (a.loc.isMemory = true → ∃ b, blkOf a.loc = some b)) ∧ op.act.low B ∧ ∀ g d, deafStep g d op = d
theorem evOk_fair {F S : Nat → Prop} {B g : Nat} {fn : FuncId} {pos : String} {e : Event} (h : EvOk F S B e) : Fair F S B { g, fn, pos, act := .ofEvent e } := by
  obtain ⟨loc, wr, sy⟩ := e
  cases loc with
  | cell a =>
    have e1 : MemAct.ofEvent ⟨.cell a, wr, sy⟩ = .access ⟨.cell a, wr, sy⟩ := by cases wr <;> cases sy <;> rfl
    refine ⟨fun x hx => ?_, by rw [e1]; exact h.2.2, fun _ _ => by rw [e1]; rfl⟩
    rw [e1] at hx
    simp only [MemAct.touch?, Option.some.injEq] at hx
    subst hx
    exact ⟨fun b hb => by cases hb; exact ⟨h.1, h.2.1⟩, fun _ => ⟨_, rfl⟩⟩
  | obj r =>
    by_cases hc : wr = true ∧ sy = true
    · obtain ⟨rfl, rfl⟩ := hc
      exact ⟨fun x hx => (by cases hx), h.2.2, fun _ _ => rfl⟩
    · have e1 : MemAct.ofEvent ⟨.obj r, wr, sy⟩ = .access ⟨.obj r, wr, sy⟩ := by
        cases wr <;> cases sy <;> first | rfl | exact absurd ⟨rfl, rfl⟩ hc
      refine ⟨fun x hx => ?_, by rw [e1]; exact h.2.2, fun _ _ => by rw [e1]; rfl⟩
      rw [e1] at hx
      simp only [MemAct.touch?, Option.some.injEq] at hx
      subst hx
      exact ⟨fun b hb => by cases hb; exact ⟨h.1, fun _ => h.2.1⟩, fun _ => ⟨_, rfl⟩⟩
  | mark m =>
    have h' : softMark m := h
    have e1 : MemAct.ofEvent ⟨.mark m, wr, sy⟩ = .mark m := by cases wr <;> cases sy <;> rfl
    rw [e1]
    cases m with
    | noRoom => exact ⟨fun x hx => (by cases hx), trivial, fun _ _ => rfl⟩
    | extern f => exact ⟨fun x hx => (by cases hx), trivial, fun _ _ => rfl⟩
    | _ => exact h'.elim
  | output => exact h.elim
  | goroutines => exact h.elim
theorem Fair.mono {F S : Nat → Prop} {B B' : Nat} {op : MemOp} (h : Fair F S B op) (hB : B ≤ B') : Fair F S B' op := ⟨h.1, MemAct.low_mono hB h.2.1, h.2.2⟩
theorem ops_fair {F S : Nat → Prop} {B g : Nat} {fn : FuncId} {pos : String} {es : Array Event} (h : ∀ e ∈ es, EvOk F S B e) : ∀ op ∈ MemOp.ofEvents g fn pos es, op.g = g ∧ Fair F S B op := by
  intro op hop
  obtain ⟨e, he, rfl⟩ := Go.Conc.mem_ofEvents hop
  exact ⟨rfl, evOk_fair (h e he)⟩
/-- A step of one of the living: the views grow, the law stays. -/
theorem Pt.step {Liv : Nat → Prop} {F S : Nat → Nat → Prop} {B g : Nat} {t : Trace} {fn : FuncId} {pos : String} {es : Array Event} (h : Pt Liv F S B t) (ha : Apt Liv F S B) (hg : Liv g) (he : ∀ e ∈ es, EvOk (F g) (S g) B e) :
    Pt Liv F S B (t ++ MemOp.ofEvents g fn pos es) := by
  have hf := ops_fair (g := g) (fn := fn) (pos := pos) he
  exact h.own ha hg (fun op hop => (hf op hop).1) (fun op hop => (hf op hop).2.1) (Deaf_quiet fun op hop d => (hf op hop).2.2.2 g d) fun op hop => (hf op hop).2.2.1

/-- What was there at the beginning: it stays, but for what one may turn; some of it nobody touches. -/
structure Bas (W : World) (H : Nat → Prop) (L : Nat → Prop) (F : Nat → Nat → Prop) (w : World) : Prop where
  os : w.os = W.os
  tape : w.tape = W.tape
  output : w.output = W.output
  size : W.heap.size ≤ w.heap.size
  held : ∀ b, H b → b < W.heap.size ∧ w.heap[b]? = W.heap[b]? ∧ ∀ i, L i → F i b
  new : ∀ b, b < W.heap.size → F 0 b → H b
section
variable {W w w' : World} {H L L' : Nat → Prop} {F : Nat → Nat → Prop} {S : Nat → Nat → Prop}
theorem Bas.step {i : Nat} (h : Bas W H L F w) (hi : L i) (hk : Kept (F i) (S i) w w') : Bas W H L (fun j b => if j = i then F i b else more (F j) w w' b) w' := by
  refine ⟨hk.os.trans h.os, hk.tape.trans h.tape, hk.output.trans h.output, Nat.le_trans h.size hk.size, fun b hb => ?_, fun b hb hF => ?_⟩
  · obtain ⟨h1, h2, h3⟩ := h.held b hb
    refine ⟨h1, (hk.block b (Nat.lt_of_lt_of_le h1 h.size) (.inl (h3 i hi))).trans h2, fun j hj => ?_⟩
    by_cases e : j = i
    · subst e; simpa using h3 j hj
    · simp only [e, if_false]; exact .inl (h3 j hj)
  · by_cases e : 0 = i
    · subst e; exact h.new b hb (by simpa using hF)
    · simp only [e, if_false] at hF
      rcases hF with x | x
      · exact h.new b hb x
      · have := h.size; omega
theorem Bas.sub (h : Bas W H L F w) (hs : ∀ i, L' i → L i) : Bas W H L' F w := ⟨h.os, h.tape, h.output, h.size, fun b hb => ⟨(h.held b hb).1, (h.held b hb).2.1, fun i hi => (h.held b hb).2.2 i (hs i hi)⟩, h.new⟩
theorem Bas.drew (h : Bas W H L F w) (d : Nat) : Bas W H L F (w.at d) := ⟨h.os, h.tape, h.output, h.size, h.held, h.new⟩
theorem Bas.chan (h : Bas W H L F w) {c : Nat} (hc : W.heap.size ≤ c) (cap : Nat) (buf : Array Value) (cl : Bool) (s r : Nat) (tm : Bool) : Bas W H L F (w.setChan c cap buf cl s r tm) := by
  refine ⟨h.os, h.tape, h.output, ?_, fun b hb => ⟨(h.held b hb).1, ?_, (h.held b hb).2.2⟩, h.new⟩
  · have := h.size
    simpa [World.setChan] using this
  · have h1 := (h.held b hb).1
    rw [← (h.held b hb).2.1]
    show (w.heap.setIfInBounds c (Obj.chan cap buf cl s r tm))[b]? = _
    rw [Array.getElem?_setIfInBounds_ne (by omega)]
end
end Go.Proofs.YtofkhehcnfiopaaDoor.N
namespace Go.Proofs.YtofkhehcnfiopaaDoor.N
open Go Go.RowKit Go.Conc
set_option autoImplicit false
set_option linter.unusedSectionVars false

/-! The machine: goroutine 0 receives, some send, the others only leave. -/
section
variable (P : Program) (K : Prot) (Stop : Goroutine → World → Prop)
/-- The receiver: on its way, or parked at its channel. -/
def MainAt (s : Gst) (m : Mt) (g : Goroutine) (v : World) : Prop :=
  v.output = s.enc ∧ ((∃ tr, m = .live tr true ∧ GsT P (mSys P K) Stop tr g v) ∨
    ∃ tr0 g2, m = .live tr0 false ∧ s.pend ≠ [] ∧ g = parked g2 #[rcase s.c K.zr] (.recv false) ∧
      ∀ v₁, Rl v v₁ → ∀ i x l, s.pend[i]? = some (x :: l) → ∃ tr, Tr.Lt tr tr0 ∧ GsT P (mSys P K) Stop tr (Go.Conc.served g2 (K.msg x)) (saying v₁ (s.after K i x l).enc))
/-- A sender: on its way, or parked with its next word. -/
def WorkAt (c : Nat) (l : List UInt8) (m : Mt) (g : Goroutine) (v : World) : Prop :=
  v.output = #[enc1 l] ∧ ((∃ tr, m = .live tr true ∧ GsT P (wSys P K c) (WStop P) tr g v) ∨
    ∃ tr0 g2 x l', m = .live tr0 false ∧ l = x :: l' ∧ g = parked g2 #[scase c (K.msg x) K.z] .send ∧ (x = K.done → ∃ n, QuitsD P n 0 (Go.Conc.served g2 undef)) ∧
      ∀ v₁, Rl v v₁ → ∃ tr, Tr.Lt tr tr0 ∧ GsT P (wSys P K c) (WStop P) tr (Go.Conc.served g2 undef) (saying v₁ #[enc1 l']))
def Liv (ids : List Nat) (i : Nat) : Prop := i = 0 ∨ i ∈ ids
structure MInv (W : World) (H : Nat → Prop) (gs : Array Goroutine) (w : World) (s : Gst) (ids : List Nat) (F S : Nat → Nat → Prop) (vs : Nat → World) (m0 : Mt) (ms : List Mt) (t : Trace) : Prop where
  len : ms.length = gs.size
  nodup : ids.Nodup
  inside : ∀ i ∈ ids, 0 < i ∧ i < gs.size
  pend : ids.length = s.pend.length
  hid : ∀ i, Liv ids i → Hid (F i) (S i) w (vs i)
  main : ∃ a, gs[0]? = some a ∧ MainAt P K Stop s m0 a (vs 0)
  work : ∀ (k i : Nat) (l : List UInt8), ids[k]? = some i → s.pend[k]? = some l → Said K l ∧ ∃ g m, gs[i]? = some g ∧ ms[i]? = some m ∧ WorkAt P K s.c l m g (vs i)
  old : ∀ (i : Nat) (g : Goroutine), 0 < i → i ∉ ids → gs[i]? = some g → ∃ n, ms[i]? = some (.quits n) ∧ QuitsD P n (Deaf t i) g
  above : ∀ j, gs.size ≤ j → Deaf t j = 0
  apt : Apt (Liv ids) F S w.heap.size
  law : Pt (Liv ids) F S w.heap.size t
  chan : s.pend ≠ [] → (∃ r, w.heap[s.c]? = some (.chan 0 #[] false r r false)) ∧ ∀ i, Liv ids i → F i s.c
  lent : ∀ b, S 0 b ↔ b ∈ s.sl
  soft : ∀ b ∈ s.sl, ¬ F 0 b ∧ ∃ c t, w.heap[b]? = some (.cells c t (0, 0))
  apart : ∀ tr, m0 = .live tr false → ∀ i ∈ ids, ∃ tr, ms[i]? = some (.live tr true)
  based : Bas W H (Liv ids) F w
  high : s.pend ≠ [] → W.heap.size ≤ s.c
end
section
variable {P : Program} {K : Prot} {W : World} {H : Nat → Prop} {Stop : Goroutine → World → Prop} {s : Gst} {m m0 : Mt} {ms : List Mt} {g : Goroutine} {v v' w : World} {c : Nat} {l : List UInt8} {gs : Array Goroutine} {ids : List Nat} {F S : Nat → Nat → Prop} {vs : Nat → World} {t : Trace}
theorem MainAt.rely (h : MainAt P K Stop s m g v) (hr : Rl v v') : MainAt P K Stop s m g v' := by
  obtain ⟨h0, ⟨tr, h1, h2⟩ | ⟨tr0, g2, h1, h2, h3, h4⟩⟩ := h
  · exact ⟨hr.output.trans h0, .inl ⟨tr, h1, h2.rely hr⟩⟩
  · exact ⟨hr.output.trans h0, .inr ⟨tr0, g2, h1, h2, h3, fun v₁ h5 => h4 v₁ (hr.trans h5)⟩⟩
theorem WorkAt.rely (h : WorkAt P K c l m g v) (hr : Rl v v') : WorkAt P K c l m g v' := by
  obtain ⟨h0, ⟨tr, h1, h2⟩ | ⟨tr0, g2, x, l', h1, h2, h3, h4, h5⟩⟩ := h
  · exact ⟨hr.output.trans h0, .inl ⟨tr, h1, h2.rely hr⟩⟩
  · exact ⟨hr.output.trans h0, .inr ⟨tr0, g2, x, l', h1, h2, h3, h4, fun v₁ h6 => h5 v₁ (hr.trans h6)⟩⟩
theorem MInv.drew (h : MInv P K Stop W H gs w s ids F S vs m0 ms t) (d : Nat) : MInv P K Stop W H gs (w.at d) s ids F S (fun i => (vs i).at d) m0 ms t := by
  refine ⟨h.len, h.nodup, h.inside, h.pend, fun i hi => (h.hid i hi).drew d, ?_, fun k i l hk hl => ?_, h.old, h.above, h.apt, h.law, h.chan, h.lent, h.soft, h.apart, h.based.drew d, h.high⟩
  · obtain ⟨a, h1, h2⟩ := h.main
    exact ⟨a, h1, h2.rely (.drew ..)⟩
  · obtain ⟨h1, g, m, h2, h3, h4⟩ := h.work k i l hk hl
    exact ⟨h1, g, m, h2, h3, h4.rely (.drew ..)⟩
/-- One of the living has gone a step of its own: what the others have stays. -/
theorem Apt.step {Liv : Nat → Prop} {w w' : World} {i : Nat} (h : Apt Liv F S w.heap.size) : Apt Liv (fun j b => if j = i then F i b else more (F j) w w' b) S w'.heap.size := by
  intro a b ha hb hne k hk hF hS
  by_cases e1 : a = i
  · subst e1
    have e2 : b ≠ a := fun e => hne e.symm
    simp only [if_true] at hF
    simp only [e2, if_false]
    rcases Nat.lt_or_ge k w.heap.size with hl | hl
    · exact .inl (h a b ha hb hne k hl hF hS)
    · exact .inr ⟨hl, hk⟩
  · simp only [e1, if_false] at hF
    have hl : k < w.heap.size := by
      rcases Nat.lt_or_ge k w.heap.size with hl | hl
      · exact hl
      · exact absurd (.inr ⟨hl, hk⟩) hF
    have hF' := h a b ha hb hne k hl (fun x => hF (.inl x)) hS
    by_cases e2 : b = i
    · subst e2; simpa using hF'
    · simp only [e2, if_false]; exact .inl hF'
theorem Pt.grow {Liv : Nat → Prop} {w w' : World} {i : Nat} {fn : FuncId} {pos : String} {es : Array Event} (h : Pt Liv F S w.heap.size t) (ha : Apt Liv F S w.heap.size) (hi : Liv i) (hs : w.heap.size ≤ w'.heap.size) (he : ∀ e ∈ es, EvOk (F i) (S i) w'.heap.size e) :
    Pt Liv (fun j b => if j = i then F i b else more (F j) w w' b) S w'.heap.size (t ++ MemOp.ofEvents i fn pos es) := by
  refine Pt.step (h.mono (fun g b _ hF => ?_) (fun _ _ _ _ h => h) hs) ha.step hi (by simpa using he)
  by_cases e : g = i
  · subst e; simpa using hF
  · simp only [e, if_false]; exact .inl hF
end
end Go.Proofs.YtofkhehcnfiopaaDoor.N
namespace Go.Proofs.YtofkhehcnfiopaaDoor.N
open Go Go.RowKit Go.Conc
set_option autoImplicit false
set_option linter.unusedSectionVars false

section
variable {P : Program} {K : Prot} {W : World} {H : Nat → Prop} {Stop : Goroutine → World → Prop} {s : Gst} {m m0 m' : Mt} {ms : List Mt} {g g' : Goroutine} {v v' w w' : World} {c i : Nat} {l : List UInt8} {gs : Array Goroutine} {ids : List Nat} {F S : Nat → Nat → Prop} {vs : Nat → World} {t : Trace} {es : Array Event}
theorem mrun {tr : Tr} (hS : ∀ g v, Stop g v → g.status = .running) (h : GsT P (mSys P K) Stop tr g v) : g.status = .running := by
  cases h with
  | stop h => exact hS _ _ (h v (Rl.refl v))
  | step hr _ _ _ => exact hr
  | sync nx h k =>
    rcases h v (Rl.refl v) with ⟨hr, _⟩ | ⟨hr, _⟩ | ⟨hr, _⟩ <;> exact hr
theorem wrun {tr : Tr} (hl : Said K l) (ho : v.output = #[enc1 l]) (h : GsT P (wSys P K c) (WStop P) tr g v) : g.status = .running := by
  cases h with
  | stop h =>
    have h1 : v.output = #[enc1 []] := h v (Rl.refl v)
    rw [ho] at h1
    have h2 : l = [] := enc1_inj (by simpa using h1)
    obtain ⟨x, h3, _⟩ := hl
    rw [h2] at h3
    simp at h3
  | step hr _ _ _ => exact hr
  | sync nx h k => exact (h v (Rl.refl v)).1
theorem MainAt.woken {w' : World} {a a' : Goroutine} (hS : ∀ g v, Stop g v → g.status = .running) (h : MainAt P K Stop s m g v) (hc : s.pend ≠ [] → ∃ r, w'.heap[s.c]? = some (.chan 0 #[] false r r false)) : Go.Conc.woken P a a' w' g = g := by
  obtain ⟨_, ⟨tr, _, h2⟩ | ⟨_, g2, _, h2, rfl, _⟩⟩ := h
  · exact woken_run (mrun hS h2)
  · obtain ⟨r, h3⟩ := hc h2
    exact woken_recv_open _ _ h3
theorem WorkAt.woken {w' : World} {a a' : Goroutine} {r : Nat} (hl : Said K l) (h : WorkAt P K c l m g v) (hc : w'.heap[c]? = some (.chan 0 #[] false r r false)) : Go.Conc.woken P a a' w' g = g := by
  obtain ⟨h0, ⟨tr, _, h2⟩ | ⟨_, g2, _, _, _, _, rfl, _⟩⟩ := h
  · exact woken_run (wrun hl h0 h2)
  · exact woken_send_open _ _ hc
theorem mem_pend (h : MInv P K Stop W H gs w s ids F S vs m0 ms t) (hi : i ∈ ids) : ∃ (k : Nat) (l : List UInt8), ids[k]? = some i ∧ s.pend[k]? = some l := by
  obtain ⟨k, hk, rfl⟩ := List.mem_iff_getElem.1 hi
  exact ⟨k, s.pend[k]'(by rw [← h.pend]; exact hk), List.getElem?_eq_getElem hk, List.getElem?_eq_getElem _⟩
/-- One of the living takes a step of its own. -/
theorem MInv.own (h : MInv P K Stop W H gs w s ids F S vs m0 ms t) (hS : ∀ g v, Stop g v → g.status = .running) (hi : Liv ids i) (hg : gs[i]? = some g) (hk : Kept (F i) (S i) w w') (hv : Hid (F i) (S i) w' v') (he : ∀ e ∈ es, EvOk (F i) (S i) w'.heap.size e)
    {tr : Tr} (hm : i = 0 → MainAt P K Stop s (.live tr true) g' v') (hw : i ≠ 0 → ∀ (k : Nat) (l : List UInt8), ids[k]? = some i → s.pend[k]? = some l → WorkAt P K s.c l (.live tr true) g' v') :
    MInv P K Stop W H ((gs.map (Go.Conc.woken P g g' w')).setIfInBounds i g') w' s ids (fun j b => if j = i then F i b else more (F j) w w' b) S (fun j => if j = i then v' else grown (vs j) w')
      (if i = 0 then .live tr true else m0) (if i = 0 then ms else ms.set i (.live tr true)) (t ++ MemOp.ofEvents i g.frame.fn g.frame.place es) := by
  have hlt : i < gs.size := (Array.getElem?_eq_some_iff.1 hg).1
  have hchan : s.pend ≠ [] → (∃ r, w'.heap[s.c]? = some (.chan 0 #[] false r r false)) := fun hp => by
    obtain ⟨⟨r, h1⟩, h2⟩ := h.chan hp
    exact ⟨r, by rw [hk.block _ (Array.getElem?_eq_some_iff.1 h1).1 (.inl (h2 i hi))]; exact h1⟩
  have hne : ∀ j, i ≠ j → ((gs.map (Go.Conc.woken P g g' w')).setIfInBounds i g')[j]? = (gs[j]?).map (Go.Conc.woken P g g' w') := fun j hj => by
    rw [Array.getElem?_setIfInBounds_ne hj, Array.getElem?_map]
  have hself : ((gs.map (Go.Conc.woken P g g' w')).setIfInBounds i g')[i]? = some g' := Array.getElem?_setIfInBounds_self_of_lt (by simpa using hlt)
  have hdeaf : ∀ j, Deaf (t ++ MemOp.ofEvents i g.frame.fn g.frame.place es) j = Deaf t j := fun j => Deaf_quiet fun op hop d => (ops_fair he op hop).2.2.2 j d
  refine ⟨?_, h.nodup, fun j hj => by simpa using h.inside j hj, h.pend, fun j hj => ?_, ?_, fun k j l hkj hl => ?_, fun j x hj hn hx => ?_, fun j hj => ?_, h.apt.step, h.law.grow h.apt hi hk.size he, fun hp => ⟨hchan hp, fun j hj => ?_⟩, h.lent, fun b hb => ?_, fun tr' htr j hj => ?_, h.based.step hi hk, h.high⟩
  · by_cases e : i = 0 <;> simp [e, h.len]
  · by_cases e : j = i
    · subst e; simpa using hv
    · simp only [e, if_false]
      exact (h.hid j hj).beside hk fun b hb h1 h2 => h.apt i j hi hj (Ne.symm e) b hb h1 h2
  · obtain ⟨a, h1, h2⟩ := h.main
    by_cases e : i = 0
    · subst e
      exact ⟨g', hself, by simpa using hm rfl⟩
    · refine ⟨a, ?_, ?_⟩
      · rw [hne 0 e, h1]
        simp [h2.woken hS hchan]
      · have e' : (0 : Nat) ≠ i := fun x => e x.symm
        simp only [e', e, if_false]
        exact h2.rely .grown
  · obtain ⟨h1, x, m1, h2, h3, h4⟩ := h.work k j l hkj hl
    have hj0 : 0 < j := (h.inside j (List.mem_of_getElem? hkj)).1
    refine ⟨h1, ?_⟩
    by_cases e : i = j
    · subst e
      have e0 : i ≠ 0 := by omega
      refine ⟨g', .live tr true, hself, ?_, by simpa using hw e0 k l hkj hl⟩
      simp only [e0, if_false]
      rw [List.getElem?_set_self (by rw [h.len]; exact hlt)]
    · obtain ⟨r, h5⟩ := hchan (fun x => by rw [x] at hl; simp at hl)
      refine ⟨x, m1, ?_, ?_, ?_⟩
      · rw [hne j e, h2]; simp [h4.woken h1 h5]
      · by_cases e0 : i = 0
        · simp only [e0, if_true]; exact h3
        · simp only [e0, if_false]; rw [List.getElem?_set_ne e]; exact h3
      · have e' : j ≠ i := fun x => e x.symm
        simp only [e', if_false]
        exact h4.rely .grown
  · have e : i ≠ j := fun e => by subst e; exact hi.elim (fun x => by omega) hn
    rw [hne j e] at hx
    obtain ⟨y, hy, rfl⟩ := Option.map_eq_some_iff.1 hx
    obtain ⟨n, h1, h2⟩ := h.old j y hj hn hy
    refine ⟨n, ?_, ?_⟩
    · by_cases e0 : i = 0
      · simp only [e0, if_true]; exact h1
      · simp only [e0, if_false]; rw [List.getElem?_set_ne e]; exact h1
    · rw [woken_quitsD h2, hdeaf]; exact h2
  · rw [hdeaf]; exact h.above j (by simpa using hj)
  · have h1 := (h.chan hp).2 j hj
    by_cases e : j = i
    · subst e; simpa using h1
    · simp only [e, if_false]; exact .inl h1
  · obtain ⟨h1, cs, tt, h2⟩ := h.soft b hb
    have hbl := (Array.getElem?_eq_some_iff.1 h2).1
    have h3 : w'.heap[b]? = w.heap[b]? := hk.block b hbl (by
      by_cases e : i = 0
      · subst e; exact .inr ((h.lent b).2 hb)
      · by_cases x : F i b
        · exact .inl x
        · by_cases y : S i b
          · exact .inr y
          · exact absurd (h.apt i 0 hi (.inl rfl) e b hbl x y) h1)
    refine ⟨?_, cs, tt, by rw [h3]; exact h2⟩
    by_cases e : 0 = i
    · subst e; simpa using h1
    · simp only [e, if_false]
      rintro (x | x)
      · exact h1 x
      · exact absurd x.1 (by omega)
  · by_cases e : i = 0
    · simp only [e, if_true] at htr
      cases htr
    · simp only [e, if_false] at htr ⊢
      obtain ⟨tr2, h1⟩ := h.apart tr' htr j hj
      by_cases e1 : i = j
      · subst e1
        exact ⟨tr, by rw [List.getElem?_set_self (by rw [h.len]; exact hlt)]⟩
      · exact ⟨tr2, by rw [List.getElem?_set_ne e1]; exact h1⟩
end
end Go.Proofs.YtofkhehcnfiopaaDoor.N
namespace Go.Proofs.YtofkhehcnfiopaaDoor.N
open Go Go.RowKit Go.Conc
set_option autoImplicit false
set_option linter.unusedSectionVars false

section
variable {P : Program} {K : Prot} {W : World} {H : Nat → Prop} {Stop : Goroutine → World → Prop} {s : Gst} {m m0 m' : Mt} {ms : List Mt} {g g' : Goroutine} {v v' w w' : World} {c i : Nat} {l : List UInt8} {gs : Array Goroutine} {ids : List Nat} {F S : Nat → Nat → Prop} {vs : Nat → World} {t : Trace} {es : Array Event}
/-- One that only leaves goes on. -/
theorem MInv.left (h : MInv P K Stop W H gs w s ids F S vs m0 ms t) (hS : ∀ g v, Stop g v → g.status = .running) (hi0 : 0 < i) (hi : i ∉ ids) (hg : gs[i]? = some g) (hm : ∀ e ∈ es, Event.mute e = true) {n : Nat} (hq : QuitsD P n (deafBehind (Deaf t i) es) g') :
    MInv P K Stop W H ((gs.map (Go.Conc.woken P g g' w)).setIfInBounds i g') w s ids F S vs m0 (ms.set i (.quits n)) (t ++ MemOp.ofEvents i g.frame.fn g.frame.place es) := by
  have hlt : i < gs.size := (Array.getElem?_eq_some_iff.1 hg).1
  have hne : ∀ j, i ≠ j → ((gs.map (Go.Conc.woken P g g' w)).setIfInBounds i g')[j]? = (gs[j]?).map (Go.Conc.woken P g g' w) := fun j hj => by
    rw [Array.getElem?_setIfInBounds_ne hj, Array.getElem?_map]
  have hself : ((gs.map (Go.Conc.woken P g g' w)).setIfInBounds i g')[i]? = some g' := Array.getElem?_setIfInBounds_self_of_lt (by simpa using hlt)
  have hdeaf : ∀ j, i ≠ j → Deaf (t ++ MemOp.ofEvents i g.frame.fn g.frame.place es) j = Deaf t j := fun j hj => Deaf_other t hj _ (fun op hop => by obtain ⟨e, _, rfl⟩ := Go.Conc.mem_ofEvents hop; rfl)
  have hnl : ¬ Liv ids i := fun x => x.elim (fun x => by omega) hi
  refine ⟨by simp [h.len], h.nodup, fun j hj => by simpa using h.inside j hj, h.pend, h.hid, ?_, fun k j l hkj hl => ?_, fun j x hj hn hx => ?_, fun j hj => ?_, h.apt, h.law.mute hnl (fun op hop => by obtain ⟨e, _, rfl⟩ := Go.Conc.mem_ofEvents hop; rfl) (fun op hop => by obtain ⟨e, he, rfl⟩ := Go.Conc.mem_ofEvents hop; exact touch_mute (hm e he)) (fun op hop => by obtain ⟨e, he, rfl⟩ := Go.Conc.mem_ofEvents hop; exact low_mute (hm e he) _), h.chan, h.lent, h.soft, fun tr' htr j hj => ?_, h.based, h.high⟩
  · obtain ⟨a, h1, h2⟩ := h.main
    refine ⟨a, ?_, h2⟩
    rw [hne 0 (by omega), h1]
    simp [h2.woken hS fun hp => (h.chan hp).1]
  · obtain ⟨h1, x, m1, h2, h3, h4⟩ := h.work k j l hkj hl
    have e : i ≠ j := fun e => by subst e; exact hi (List.mem_of_getElem? hkj)
    obtain ⟨r, h5⟩ := (h.chan (fun x => by rw [x] at hl; simp at hl)).1
    exact ⟨h1, x, m1, by rw [hne j e, h2]; simp [h4.woken h1 h5], by rw [List.getElem?_set_ne e]; exact h3, h4⟩
  · by_cases e : i = j
    · subst e
      rw [hself] at hx
      cases hx
      exact ⟨n, List.getElem?_set_self (by rw [h.len]; exact hlt), by rw [Deaf_own]; exact hq⟩
    · rw [hne j e] at hx
      obtain ⟨y, hy, rfl⟩ := Option.map_eq_some_iff.1 hx
      obtain ⟨n', h1, h2⟩ := h.old j y hj hn hy
      exact ⟨n', by rw [List.getElem?_set_ne e]; exact h1, by rw [woken_quitsD h2, hdeaf j e]; exact h2⟩
  · have hj' : gs.size ≤ j := by simpa using hj
    rw [hdeaf j (by omega)]
    exact h.above j hj'
  · have e : i ≠ j := fun e => by subst e; exact hi hj
    obtain ⟨tr2, h1⟩ := h.apart tr' htr j hj
    exact ⟨tr2, by rw [List.getElem?_set_ne e]; exact h1⟩
/-- Nobody is left who sends: what was handed out comes back. -/
theorem MInv.settle (h : MInv P K Stop W H gs w s ids F S vs m0 ms t) (hp : s.pend = []) {a : Goroutine} (ha : gs[0]? = some a) {tr : Tr} (hm : MainAt P K Stop ⟨0, [], []⟩ (.live tr true) a (saying (thaw s.sl (vs 0)) (Gst.enc ⟨0, [], []⟩))) :
    MInv P K Stop W H gs w ⟨0, [], []⟩ [] F (fun _ _ => False) (fun j => if j = 0 then saying (thaw s.sl (vs 0)) (Gst.enc ⟨0, [], []⟩) else vs j) (.live tr true) ms t := by
  have hids : ids = [] := by
    have := h.pend
    rw [hp] at this
    exact List.eq_nil_of_length_eq_zero this
  subst hids
  have hL : ∀ g, Liv [] g → g = 0 := fun g hg => hg.elim id fun x => by cases x
  have hS0 : S 0 = fun b => b ∈ s.sl := funext fun b => propext (h.lent b)
  refine ⟨h.len, .nil, fun j hj => (by cases hj), rfl, fun j hj => ?_, ⟨a, ha, by simpa using hm⟩, fun k j l hk _ => (by simp at hk), h.old, h.above, fun a b ha hb hne => ?_, h.law.settle hL, fun hp => absurd rfl hp, fun b => (by simp), fun b hb => (by cases hb), fun _ hx => (by cases hx), h.based, fun hp => absurd rfl hp⟩
  · obtain rfl := hL j hj
    have h1 := h.hid 0 hj
    rw [hS0] at h1
    simpa using (h1.thaw h.soft).saying _
  · exact absurd ((hL a ha).trans (hL b hb).symm) hne
end
end Go.Proofs.YtofkhehcnfiopaaDoor.N
namespace Go.Proofs.YtofkhehcnfiopaaDoor.N
open Go Go.RowKit Go.Conc
set_option autoImplicit false
set_option linter.unusedSectionVars false

section
variable {P : Program} {K : Prot} {W : World} {H : Nat → Prop} {Stop : Goroutine → World → Prop} {s : Gst} {m m0 m' : Mt} {ms : List Mt} {g g' ch : Goroutine} {v v' w w' : World} {c i : Nat} {l : List UInt8} {sl : List Nat} {gs : Array Goroutine} {ids : List Nat} {F S : Nat → Nat → Prop} {vs : Nat → World} {t : Trace} {es : Array Event}
theorem liv_app {n i : Nat} : Liv (ids ++ [n]) i ↔ Liv ids i ∨ i = n := by
  unfold Liv
  simp only [List.mem_append, List.mem_singleton]
  exact ⟨fun x => x.elim (fun y => .inl (.inl y)) fun y => y.elim (fun z => .inl (.inr z)) .inr, fun x => x.elim (fun y => y.elim .inl fun z => .inr (.inl z)) fun y => .inr (.inr y)⟩
def hireF (F : Nat → Nat → Prop) (n B c : Nat) (sl : List Nat) (j b : Nat) : Prop := if j = n then b < B ∧ b ∉ sl else if j = 0 then F 0 b ∨ b = c else F j b
def hireS (S : Nat → Nat → Prop) (n : Nat) (sl : List Nat) (j b : Nat) : Prop := if j = n then b ∈ sl else if j = 0 then S 0 b ∨ b ∈ sl else S j b
theorem hireF_n {n B : Nat} : hireF F n B c sl n = fun b => b < B ∧ b ∉ sl := by funext b; simp [hireF]
theorem hireF_0 {n B : Nat} (h : (0 : Nat) ≠ n) : hireF F n B c sl 0 = fun b => F 0 b ∨ b = c := by funext b; simp [hireF, h]
theorem hireF_j {n B j : Nat} (h : j ≠ n) (h0 : j ≠ 0) : hireF F n B c sl j = F j := by funext b; simp [hireF, h, h0]
theorem hireS_n {n : Nat} : hireS S n sl n = fun b => b ∈ sl := by funext b; simp [hireS]
theorem hireS_0 {n : Nat} (h : (0 : Nat) ≠ n) : hireS S n sl 0 = fun b => S 0 b ∨ b ∈ sl := by funext b; simp [hireS, h]
theorem hireS_j {n j : Nat} (h : j ≠ n) (h0 : j ≠ 0) : hireS S n sl j = S j := by funext b; simp [hireS, h, h0]
/-- One more is started. -/
theorem MInv.hire (h : MInv P K Stop W H gs w s ids F S vs m0 ms t) (hg : gs[0]? = some g) (hcl : W.heap.size ≤ c)
    (hc : (s.pend = [] ∧ s.sl = [] ∧ (vs 0).heap[c]? = some (.chan 0 #[] false 0 0 false)) ∨ (s.pend ≠ [] ∧ s.c = c)) (hcs : c ∉ sl) (hgv : Givable sl (vs 0)) (hun : ∀ b ∈ sl, b ∈ s.sl ∨ ∃ cs t, (vs 0).heap[b]? = some (.cells cs t (0, 0)))
    (hl : Said K l) (he : ∀ e ∈ es, EvOk (F 0) (S 0) w.heap.size e) {tr trc : Tr} (hm : MainAt P K Stop ⟨c, s.sl ++ sl, s.pend ++ [l]⟩ (.live tr true) g' (saying (hideB c (chill sl (vs 0))) (Gst.enc ⟨c, s.sl ++ sl, s.pend ++ [l]⟩)))
    (hw : GsT P (wSys P K c) (WStop P) trc ch (saying (onlyV sl (vs 0)) #[enc1 l])) (fc : FuncId) :
    MInv P K Stop W H ((gs.setIfInBounds 0 g').push ch) w ⟨c, s.sl ++ sl, s.pend ++ [l]⟩ (ids ++ [gs.size]) (hireF F gs.size w.heap.size c sl) (hireS S gs.size sl)
      (fun j => if j = gs.size then saying (onlyV sl (vs 0)) #[enc1 l] else if j = 0 then saying (hideB c (chill sl (vs 0))) (Gst.enc ⟨c, s.sl ++ sl, s.pend ++ [l]⟩) else vs j)
      (.live tr true) (ms ++ [.live trc true])
      ((t ++ MemOp.ofEvents 0 g.frame.fn g.frame.place es) ++ #[{ g := 0, fn := g.frame.fn, pos := g.frame.place, act := .go gs.size }, { g := gs.size, fn := fc, pos := g.frame.place, act := .start }]) := by
  have hlt : 0 < gs.size := (Array.getElem?_eq_some_iff.1 hg).1
  have hn0 : gs.size ≠ 0 := by omega
  have h0n : (0 : Nat) ≠ gs.size := fun e => hn0 e.symm
  have hv0 := h.hid 0 (.inl rfl)
  have hchn : (∃ r, w.heap[c]? = some (.chan 0 #[] false r r false)) ∧ (∀ i ∈ ids, F i c) ∧ c ∉ s.sl := by
    rcases hc with ⟨h1, h2, h3⟩ | ⟨h1, rfl⟩
    · have hi : ids = [] := by
        have := h.pend
        rw [h1] at this
        exact List.eq_nil_of_length_eq_zero this
      have hF : ¬ F 0 c := fun hf => by
        obtain ⟨t', fz', h4⟩ := hv0.away c hf
        rw [h3] at h4
        cases h4
      have hSc : ¬ S 0 c := fun x => by
        have := (h.lent c).1 x
        rw [h2] at this
        cases this
      exact ⟨⟨0, by rw [← hv0.same c hF hSc]; exact h3⟩, fun i hi' => (by rw [hi] at hi'; cases hi'), by rw [h2]; simp⟩
    · obtain ⟨⟨r, h2⟩, h3⟩ := h.chan h1
      refine ⟨⟨r, h2⟩, fun i hi => h3 i (.inr hi), fun hx => ?_⟩
      obtain ⟨_, cs, tt, h4⟩ := h.soft _ hx
      rw [h2] at h4
      cases h4
  obtain ⟨⟨r, hch⟩, hFc, hcsl⟩ := hchn
  have hcb : c < w.heap.size := (Array.getElem?_eq_some_iff.1 hch).1
  have hgs := givable_shown hv0 hgv
  have hslb : ∀ b ∈ sl, b < w.heap.size := fun b hb => by
    obtain ⟨_, cs, tt, fz, h1, _⟩ := hgs b hb
    rw [← hv0.size]
    exact (Array.getElem?_eq_some_iff.1 h1).1
  have hSc0 : ¬ S 0 c := fun x => hcsl ((h.lent c).1 x)
  have hne : ∀ j, j < gs.size → j ≠ gs.size := fun j hj e => by omega
  have old : ∀ j, j ≠ 0 → j < gs.size → ((gs.setIfInBounds 0 g').push ch)[j]? = gs[j]? := fun j h1 h2 => by
    rw [Array.getElem?_push_lt (by simpa using h2), ← Array.getElem?_eq_getElem, Array.getElem?_setIfInBounds_ne (fun e => h1 e.symm)]
  have hfair := ops_fair (g := 0) (fn := g.frame.fn) (pos := g.frame.place) he
  have hnl : ¬ Liv ids gs.size := fun x => x.elim hn0 fun y => by have := (h.inside _ y).2; omega
  have d1 : ∀ j, Deaf (t ++ MemOp.ofEvents 0 g.frame.fn g.frame.place es) j = Deaf t j := fun j => Deaf_quiet fun op hop d => (hfair op hop).2.2.2 j d
  have d2 : ∀ j, Deaf ((t ++ MemOp.ofEvents 0 g.frame.fn g.frame.place es) ++ #[{ g := 0, fn := g.frame.fn, pos := g.frame.place, act := .go gs.size }, { g := gs.size, fn := fc, pos := g.frame.place, act := .start }]) j = Deaf t j := fun j => by
    rw [Deaf_quiet fun op hop d => ?_, d1]
    simp only [List.mem_toArray, List.mem_cons, List.not_mem_nil, or_false] at hop
    rcases hop with rfl | rfl <;> rfl
  have hlaw : Pt (Liv (ids ++ [gs.size])) (hireF F gs.size w.heap.size c sl) (hireS S gs.size sl) w.heap.size
      ((t ++ MemOp.ofEvents 0 g.frame.fn g.frame.place es) ++ #[{ g := 0, fn := g.frame.fn, pos := g.frame.place, act := .go gs.size }, { g := gs.size, fn := fc, pos := g.frame.place, act := .start }]) := by
    have hLe : Liv (ids ++ [gs.size]) = fun i => Liv ids i ∨ i = gs.size := funext fun i => propext liv_app
    rw [hLe]
    have p1 : Pt (Liv ids) F S w.heap.size (t ++ MemOp.ofEvents 0 g.frame.fn g.frame.place es) := h.law.step h.apt (.inl rfl) he
    have p2 := p1.mono (F' := fun j b => if j = 0 then F 0 b ∨ b = c else F j b) (S' := fun j b => if j = 0 then S 0 b ∨ b ∈ sl else S j b) (B' := w.heap.size) (fun j b _ hF => by
      by_cases e : j = 0
      · subst e; exact .inl hF
      · simpa [e] using hF) (fun j b _ _ hS => by
      by_cases e : j = 0
      · subst e; exact .inl hS
      · simpa [e] using hS) (Nat.le_refl _)
    have hh := p2.hire (c := gs.size) (Fc := fun b => b < w.heap.size ∧ b ∉ sl) (Sc := fun b => b ∈ sl) (.inl rfl) hnl (by rw [d1]; exact h.above _ (Nat.le_refl _)) (fun b hb hf => by
      have hbs : b ∈ sl := by
        by_cases x : b ∈ sl
        · exact x
        · exact absurd ⟨hb, x⟩ hf
      refine ⟨hbs, ?_⟩
      simp only [if_true]
      rintro (x | rfl)
      · exact (hgs b hbs).1 x
      · exact hcs hbs) g.frame.fn g.frame.place fc
    exact hh
  refine ⟨by simp [h.len], ?_, fun j hj => ?_, by simp [h.pend], fun j hj => ?_, ?_, fun k j l' hkj hl' => ?_, fun j x hj hn hx => ?_, fun j hj => ?_, ?_, hlaw, fun _ => ⟨⟨r, hch⟩, fun j hj => ?_⟩, fun b => ?_, fun b hb => ?_, fun tr' htr => (by cases htr), ?_, fun _ => hcl⟩
  · rw [List.nodup_append]
    exact ⟨h.nodup, by simp, fun a ha b hb e => by
      simp only [List.mem_singleton] at hb
      subst e
      have := (h.inside _ ha).2
      omega⟩
  · simp only [List.mem_append, List.mem_singleton] at hj
    rw [Array.size_push, Array.size_setIfInBounds]
    rcases hj with hj | rfl
    · have := h.inside j hj; omega
    · omega
  · by_cases e : j = gs.size
    · subst e
      have := (hv0.only hgv).saying #[enc1 l]
      rw [hireF_n, hireS_n]
      simpa using this
    · by_cases e0 : j = 0
      · subst e0
        have h1 := ((hv0.chill hgv).hideB hcb (by rintro (x | x); exact hSc0 x; exact hcs x)).saying (Gst.enc ⟨c, s.sl ++ sl, s.pend ++ [l]⟩)
        rw [hireF_0 h0n, hireS_0 h0n]
        simpa [h0n] using h1
      · have := h.hid j ((liv_app.1 hj).resolve_right e)
        rw [hireF_j e e0, hireS_j e e0]
        simpa [e, e0] using this
  · refine ⟨g', ?_, by simpa [h0n] using hm⟩
    rw [Array.getElem?_push_lt (by simpa using hlt), ← Array.getElem?_eq_getElem, Array.getElem?_setIfInBounds_self_of_lt hlt]
  · rcases Nat.lt_or_ge k ids.length with hk | hk
    · rw [List.getElem?_append_left hk] at hkj
      have hkp : k < s.pend.length := by rw [← h.pend]; exact hk
      have hl2 : s.pend[k]? = some l' := by
        have : (s.pend ++ [l])[k]? = some l' := hl'
        rwa [List.getElem?_append_left hkp] at this
      obtain ⟨h1, x, m1, h2, h3, h4⟩ := h.work k j l' hkj hl2
      have hj := h.inside j (List.mem_of_getElem? hkj)
      have ej : j ≠ gs.size := by omega
      have ej0 : j ≠ 0 := by omega
      have hpe : s.pend ≠ [] := fun e => by rw [e] at hl2; simp at hl2
      obtain rfl : s.c = c := by
        rcases hc with ⟨x, _⟩ | ⟨_, x⟩
        · exact absurd x hpe
        · exact x
      refine ⟨h1, x, m1, by rw [old j ej0 hj.2]; exact h2, by rw [List.getElem?_append_left (by rw [h.len]; exact hj.2)]; exact h3, ?_⟩
      simp only [ej, ej0, if_false]
      exact h4
    · have e : k = ids.length := by
        have := (List.getElem?_eq_some_iff.1 hkj).1
        simp at this
        omega
      subst e
      have ej : j = gs.size := by simpa using hkj.symm
      subst ej
      have el : l' = l := by
        have : (s.pend ++ [l])[ids.length]? = some l' := hl'
        rw [h.pend] at this
        simpa using this.symm
      subst el
      refine ⟨hl, ch, .live trc true, ?_, ?_, ?_⟩
      · simpa using Array.getElem?_push_size (xs := gs.setIfInBounds 0 g') (x := ch)
      · rw [← h.len]; simp
      · simp only [if_true]
        exact ⟨rfl, .inl ⟨trc, rfl, hw⟩⟩
  · simp only [List.mem_append, List.mem_singleton, not_or] at hn
    have hjs : j < gs.size := by
      have := (Array.getElem?_eq_some_iff.1 hx).1
      simp at this
      omega
    rw [old j (by omega) hjs] at hx
    obtain ⟨n, h1, h2⟩ := h.old j x hj hn.1 hx
    exact ⟨n, by rw [List.getElem?_append_left (by rw [h.len]; exact hjs)]; exact h1, by rw [d2]; exact h2⟩
  · rw [d2]
    refine h.above j ?_
    rw [Array.size_push, Array.size_setIfInBounds] at hj
    omega
  · intro a b ha hb hab k hk hF hS
    by_cases ea : a = gs.size
    · subst ea
      simp only [hireF, hireS, if_true] at hF hS
      exact absurd ⟨hk, hS⟩ hF
    · by_cases eb : b = gs.size
      · subst eb
        simp only [hireF, if_true]
        refine ⟨hk, fun hks => ?_⟩
        by_cases e0 : a = 0
        · subst e0
          simp only [hireS, ea, if_false, if_true] at hS
          exact hS (.inr hks)
        · simp only [hireF, hireS, ea, e0, if_false] at hF hS
          have := h.apt a 0 ((liv_app.1 ha).resolve_right ea) (.inl rfl) e0 k hk hF hS
          exact (hgs k hks).1 this
      · have ha' := (liv_app.1 ha).resolve_right ea
        have hb' := (liv_app.1 hb).resolve_right eb
        by_cases e0 : a = 0
        · subst e0
          simp only [hireF, hireS, ea, if_false, if_true, not_or] at hF hS
          have e1 : b ≠ 0 := fun e => hab e.symm
          simp only [hireF, eb, e1, if_false]
          exact h.apt 0 b ha' hb' hab k hk hF.1 hS.1
        · simp only [hireF, hireS, ea, e0, if_false] at hF hS
          have := h.apt a b ha' hb' hab k hk hF hS
          by_cases e1 : b = 0
          · subst e1
            simp only [hireF, eb, if_false, if_true]
            exact .inl this
          · simp only [hireF, eb, e1, if_false]
            exact this
  · by_cases ej : j = gs.size
    · subst ej
      simp only [hireF, if_true]
      exact ⟨hcb, hcs⟩
    · by_cases e0 : j = 0
      · subst e0
        simp only [hireF, ej, if_false, if_true]
        exact .inr trivial
      · simp only [hireF, ej, e0, if_false]
        exact hFc j (((liv_app.1 hj).resolve_right ej).resolve_left e0)
  · simp only [hireS, h0n, if_false, if_true, List.mem_append]
    rw [h.lent]
  · simp only [hireF, h0n, if_false, if_true]
    rcases List.mem_append.1 hb with hb1 | hb1
    · obtain ⟨h1, cs, tt, h2⟩ := h.soft b hb1
      refine ⟨?_, cs, tt, h2⟩
      rintro (x | rfl)
      · exact h1 x
      · exact hcsl hb1
    · have hF0 := (hgs b hb1).1
      refine ⟨?_, ?_⟩
      · rintro (x | rfl)
        · exact hF0 x
        · exact hcs hb1
      · rcases hun b hb1 with x | ⟨cs, tt, x⟩
        · exact (h.soft b x).2
        · by_cases hS : S 0 b
          · exact (h.soft b ((h.lent b).1 hS)).2
          · exact ⟨cs, tt, by rw [← hv0.same b hF0 hS]; exact x⟩
  · refine ⟨h.based.os, h.based.tape, h.based.output, h.based.size, fun b hb => ?_, fun b hb hF => ?_⟩
    · obtain ⟨h1, h2, h3⟩ := h.based.held b hb
      refine ⟨h1, h2, fun i hi => ?_⟩
      by_cases e : i = gs.size
      · subst e
        simp only [hireF, if_true]
        exact ⟨Nat.lt_of_lt_of_le h1 h.based.size, fun x => (hgs b x).1 (h3 0 (.inl rfl))⟩
      · by_cases e0 : i = 0
        · subst e0
          simp only [hireF, h0n, if_false, if_true]
          exact .inl (h3 0 (.inl rfl))
        · simp only [hireF, e, e0, if_false]
          exact h3 i ((liv_app.1 hi).resolve_right e)
    · simp only [hireF, h0n, if_false, if_true] at hF
      rcases hF with x | rfl
      · exact h.based.new b hb x
      · omega
end
end Go.Proofs.YtofkhehcnfiopaaDoor.N
namespace Go.Proofs.YtofkhehcnfiopaaDoor.N
open Go Go.RowKit Go.Conc
set_option autoImplicit false
set_option linter.unusedSectionVars false

section
variable {P : Program} {K : Prot} {W : World} {H : Nat → Prop} {Stop : Goroutine → World → Prop} {s : Gst} {m m0 m' : Mt} {ms : List Mt} {g g' ch : Goroutine} {v v' w w' : World} {c i : Nat} {l : List UInt8} {sl : List Nat} {gs : Array Goroutine} {ids : List Nat} {F S : Nat → Nat → Prop} {vs : Nat → World} {t : Trace} {es : Array Event}
/-- One of the living is parked. -/
theorem MInv.park (h : MInv P K Stop W H gs w s ids F S vs m0 ms t) (hi : Liv ids i) (hg : gs[i]? = some g) (he : ∀ e ∈ es, EvOk (F i) (S i) w.heap.size e) {tr : Tr}
    (hm : i = 0 → MainAt P K Stop s (.live tr false) g' (vs 0)) (hw : i ≠ 0 → ∀ (k : Nat) (l : List UInt8), ids[k]? = some i → s.pend[k]? = some l → WorkAt P K s.c l (.live tr false) g' (vs i))
    (hap : i = 0 → ∀ j ∈ ids, ∃ tr, ms[j]? = some (.live tr true)) (hap' : i ≠ 0 → ∀ tr, m0 ≠ .live tr false) :
    MInv P K Stop W H (gs.setIfInBounds i g') w s ids F S vs (if i = 0 then .live tr false else m0) (if i = 0 then ms else ms.set i (.live tr false)) (t ++ MemOp.ofEvents i g.frame.fn g.frame.place es) := by
  have hlt : i < gs.size := (Array.getElem?_eq_some_iff.1 hg).1
  have hne : ∀ j, i ≠ j → (gs.setIfInBounds i g')[j]? = gs[j]? := fun j hj => by rw [Array.getElem?_setIfInBounds_ne hj]
  have hself : (gs.setIfInBounds i g')[i]? = some g' := Array.getElem?_setIfInBounds_self_of_lt hlt
  have hdeaf : ∀ j, Deaf (t ++ MemOp.ofEvents i g.frame.fn g.frame.place es) j = Deaf t j := fun j => Deaf_quiet fun op hop d => (ops_fair he op hop).2.2.2 j d
  refine ⟨?_, h.nodup, fun j hj => by simpa using h.inside j hj, h.pend, h.hid, ?_, fun k j l hkj hl => ?_, fun j x hj hn hx => ?_, fun j hj => ?_, h.apt, h.law.step h.apt hi he, h.chan, h.lent, h.soft, fun tr' htr j hj => ?_, h.based, h.high⟩
  · by_cases e : i = 0 <;> simp [e, h.len]
  · by_cases e : i = 0
    · subst e
      exact ⟨g', hself, by simpa using hm rfl⟩
    · obtain ⟨a, h1, h2⟩ := h.main
      exact ⟨a, by rw [hne 0 e]; exact h1, by simpa [e] using h2⟩
  · obtain ⟨h1, x, m1, h2, h3, h4⟩ := h.work k j l hkj hl
    have hj0 : 0 < j := (h.inside j (List.mem_of_getElem? hkj)).1
    refine ⟨h1, ?_⟩
    by_cases e : i = j
    · subst e
      have e0 : i ≠ 0 := by omega
      refine ⟨g', .live tr false, hself, ?_, hw e0 k l hkj hl⟩
      simp only [e0, if_false]
      rw [List.getElem?_set_self (by rw [h.len]; exact hlt)]
    · refine ⟨x, m1, by rw [hne j e]; exact h2, ?_, h4⟩
      by_cases e0 : i = 0
      · simp only [e0, if_true]; exact h3
      · simp only [e0, if_false]; rw [List.getElem?_set_ne e]; exact h3
  · have e : i ≠ j := fun e => by subst e; exact hi.elim (fun x => by omega) hn
    rw [hne j e] at hx
    obtain ⟨n, h1, h2⟩ := h.old j x hj hn hx
    refine ⟨n, ?_, by rw [hdeaf]; exact h2⟩
    by_cases e0 : i = 0
    · simp only [e0, if_true]; exact h1
    · simp only [e0, if_false]; rw [List.getElem?_set_ne e]; exact h1
  · rw [hdeaf]; exact h.above j (by simpa using hj)
  · by_cases e : i = 0
    · simp only [e, if_true]
      exact hap e j hj
    · simp only [e, if_false] at htr
      exact absurd htr (hap' e tr')
/-- Their word has been passed on: what stands of it in the world. -/
theorem MInv.spoke (h : MInv P K Stop W H gs w s ids F S vs m0 ms t) (hp : s.pend ≠ []) (r d : Nat) (hi : Liv ids i) : Hid (F i) (S i) ((w.at d).setChan s.c 0 #[] false r r false) ((vs i).at d) :=
  ((h.hid i hi).drew d).chan ((h.chan hp).2 i hi) _ _ _ _ _ _
end
end Go.Proofs.YtofkhehcnfiopaaDoor.N
