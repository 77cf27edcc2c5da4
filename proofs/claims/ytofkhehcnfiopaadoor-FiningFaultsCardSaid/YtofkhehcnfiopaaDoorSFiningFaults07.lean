/- Parts of the walks of the laws on fining, those that FiningFaults needs: F12, HatL, F13, Hat2, F14, AgL. -/
import Derived.Test.YtofkhehcnfiopaaDoorSFiningFaults06
import Derived.Test.YtofkhehcnfiopaaDoorProg
namespace Go.Proofs.YtofkhehcnfiopaaDoor.N
open Go Go.RowKit Go.Proofs
set_option linter.unusedSectionVars false
variable [I : Sys]
theorem F.ent28 : Enters Tryd.prog 28 := enters_of Tryd.func28 rfl (by kernel_rfl)
theorem F.ent30 : Enters Tryd.prog 30 := enters_of Tryd.func30 rfl (by kernel_rfl)
theorem F.ent32 : Enters Tryd.prog 32 := enters_of Tryd.func32 rfl (by kernel_rfl)
theorem F.ent35 : Enters Tryd.prog 35 := enters_of Tryd.func35 rfl (by kernel_rfl)
theorem F.ent40 : Enters Tryd.prog 40 := enters_of Tryd.func40 rfl (by kernel_rfl)
theorem F.ent53 : Enters Tryd.prog 53 := enters_of Tryd.func53 rfl (by kernel_rfl)
theorem F.ent54 : Enters Tryd.prog 54 := enters_of Tryd.func54 rfl (by kernel_rfl)
theorem F.ent71 : Enters Tryd.prog 71 := enters_of Tryd.func71 rfl (by kernel_rfl)
theorem fined_c  (w : World) : Calls Tryd.prog 21 #[] w fun e w' => e = .returned (.bool true) ∧ Grew w w' [] := by
  refine enter (N := 108) [] Tryd.func21 rfl Tryd.ntmps21 rfl rfl ?_
  refine cod_seq ?_
  refine cod_region ?_
  refine lst_assign rfl rfl ?_
  refine lst_nil ?_
  refine ex_then ?_
  refine cod_seq ?_
  refine cod_region ?_
  refine lst_fn (X := Nat) (vs := []) (p := fun _ => True) (val := fun b => .slice (some ⟨b, 0, none⟩) 4 4) (rs := fun b => [.blk b (.cells (sAgs.flatMap Ag.cells).toArray 24 (0, 0))]) rfl rfl F.ent71 (fun a w ha => (s_c w).mono (fun e w' h => by obtain ⟨b, h1, h2⟩ := h; exact ⟨b, trivial, h1, h2⟩)) ?_
  intro s1 _
  dsimp only [List.cons_append, List.nil_append]
  refine lst_lit (vs := [(0, _), (1, _), (2, _)]) rfl rfl Tryd.underlying25 F.ti3 rfl rfl rfl ?_
  intro b17
  refine lst_fn (X := Option Addr × Nat) (vs := [_, _, _]) (p := fun _ => True) (val := fun x => .tuple #[.slice x.1 3 x.2, .int .i64 0]) (rs := fun x => [.row 3 1 x.1 3 x.2 (ints [3, 2, 0])]) rfl rfl F.ent40 (fun a w ha => by
    exact (Put_ok (some ⟨s1, 0, none⟩) 4 sAgs sOks (some ⟨b17, 0, none⟩) 3 7 [2, 0, 1] [3, 2, 0] (by decide) (by decide) ex_put w (blk_reads ha (cells := Ag.cells) (size := 5) (b := s1) (l := sAgs) (fun _ => rfl) rfl) (blk_reads ha (cells := ncell) (size := 1) (b := b17) (l := [2, 0, 1]) (fun _ => rfl) rfl)).mono (fun e w' h => by obtain ⟨A', c', h1, h2⟩ := h; exact ⟨(A', c'), trivial, h1, h2⟩)) ?_
  rintro ⟨A1, c1⟩ -
  dsimp only [List.cons_append, List.nil_append]
  refine lst_move rfl rfl ?_
  refine lst_extract rfl rfl rfl ?_
  refine lst_extract rfl rfl rfl ?_
  refine lst_assign rfl rfl ?_
  refine lst_assign rfl rfl ?_
  refine lst_nil ?_
  refine ex_then ?_
  refine cod_seq ?_
  refine cod_region ?_
  refine lst_fn (X := Nat) (vs := []) (p := fun _ => True) (val := fun b => .slice (some ⟨b, 0, none⟩) 4 4) (rs := fun b => [.blk b (.cells (sAgs.flatMap Ag.cells).toArray 24 (0, 0))]) rfl rfl F.ent71 (fun a w ha => (s_c w).mono (fun e w' h => by obtain ⟨b, h1, h2⟩ := h; exact ⟨b, trivial, h1, h2⟩)) ?_
  intro s2 _
  dsimp only [List.cons_append, List.nil_append]
  refine lst_fn (X := Option Addr × Nat) (vs := [_, _, _]) (p := fun _ => True) (val := fun x => .tuple #[.slice x.1 2 x.2, .int .i64 0]) (rs := fun x => [.row 3 1 x.1 2 x.2 (ints [0, 3])]) rfl rfl F.ent53 (fun a w ha => by
    exact (Shortest_ok (some ⟨s2, 0, none⟩) 4 sAgs sOks 7 0 (by decide) (by decide) w (blk_reads ha (cells := Ag.cells) (size := 5) (b := s2) (l := sAgs) (fun _ => rfl) rfl)).mono (fun e w' h => by obtain ⟨o, h1, h2, h3⟩ := h; obtain ⟨k, rfl, hk⟩ := found_firstB (show FoundO sAgs 15 1 (-1) (7, 0, 0) (fun t => decide (nn t.1 0 = 0)) o from h1) (by decide) ex_short; exact ⟨(k.A, k.c), trivial, by rw [h2]; simp [wayO, hk], by simpa [wayO, hk] using h3⟩)) ?_
  rintro ⟨A2, c2⟩ -
  dsimp only [List.cons_append, List.nil_append]
  refine lst_move rfl rfl ?_
  refine lst_extract rfl rfl rfl ?_
  refine lst_extract rfl rfl rfl ?_
  refine lst_assign rfl rfl ?_
  refine lst_assign rfl rfl ?_
  refine lst_nil ?_
  refine ex_then ?_
  refine cod_seq ?_
  refine cod_region ?_
  refine lst_fn (X := Nat) (vs := []) (p := fun _ => True) (val := fun b => .slice (some ⟨b, 0, none⟩) 4 4) (rs := fun b => [.blk b (.cells (sAgs.flatMap Ag.cells).toArray 24 (0, 0))]) rfl rfl F.ent71 (fun a w ha => (s_c w).mono (fun e w' h => by obtain ⟨b, h1, h2⟩ := h; exact ⟨b, trivial, h1, h2⟩)) ?_
  intro s3 _
  dsimp only [List.cons_append, List.nil_append]
  refine lst_fn (X := Option Addr × Nat) (vs := [_, _, _]) (p := fun _ => True) (val := fun x => .tuple #[.slice x.1 3 x.2, .int .i64 4, .int .i64 0]) (rs := fun x => [.row 3 1 x.1 3 x.2 (ints [2, 0, 1])]) rfl rfl F.ent35 (fun a w ha => by
    exact (Cheapest_ok (some ⟨s3, 0, none⟩) 4 sAgs sOks 7 0 4 (by decide) (by decide) (by decide) ex_cheapN w (blk_reads ha (cells := Ag.cells) (size := 5) (b := s3) (l := sAgs) (fun _ => rfl) rfl)).mono (fun e w' h => by obtain ⟨j, ps, A', c', h0, h1, h2, h3, h4⟩ := h; subst h1; obtain ⟨e1, e2, e3⟩ := ex_cheap j h0 h2; rw [show usedAll sAgs.length = 15 from rfl, e1, e2, e3] at h3; rw [show usedAll sAgs.length = 15 from rfl, e1] at h4; exact ⟨(A', c'), trivial, h3, h4⟩)) ?_
  rintro ⟨A3, c3⟩ -
  dsimp only [List.cons_append, List.nil_append]
  refine lst_move rfl rfl ?_
  refine lst_extract rfl rfl rfl ?_
  refine lst_extract rfl rfl rfl ?_
  refine lst_extract rfl rfl rfl ?_
  refine lst_assign rfl rfl ?_
  refine lst_assign rfl rfl ?_
  refine lst_assign rfl rfl ?_
  refine lst_nil ?_
  refine ex_then ?_
  refine cod_seq ?_
  refine cod_region ?_
  refine lst_fn (X := Nat) (vs := []) (p := fun _ => True) (val := fun b => .slice (some ⟨b, 0, none⟩) 4 4) (rs := fun b => [.blk b (.cells (sAgs.flatMap Ag.cells).toArray 24 (0, 0))]) rfl rfl F.ent71 (fun a w ha => (s_c w).mono (fun e w' h => by obtain ⟨b, h1, h2⟩ := h; exact ⟨b, trivial, h1, h2⟩)) ?_
  intro s4 _
  dsimp only [List.cons_append, List.nil_append]
  refine lst_fn0 (v := .tuple #[.int .i64 4, .int .i64 3, .int .i64 0]) (vs := [_, _]) rfl rfl F.ent54 (fun a w ha => by
    exact (Farthest_ok (some ⟨s4, 0, none⟩) 4 sAgs sOks 56 (by decide) w (blk_reads ha (cells := Ag.cells) (size := 5) (b := s4) (l := sAgs) (fun _ => rfl) rfl)).mono (fun e w' h => by obtain ⟨os, h1, h2, h3⟩ := h; rw [farL_table 64 (fun f hf => found_firstB (show FoundO sAgs 15 1 (-1) (f, 0, 0) (fun t => decide (nn t.1 56 = 0)) (os f) from h1 f hf) (by decide) (ex_farW f hf)), ex_far] at h2; exact ⟨h2, h3⟩)) ?_
  refine lst_move rfl rfl ?_
  refine lst_extract rfl rfl rfl ?_
  refine lst_extract rfl rfl rfl ?_
  refine lst_extract rfl rfl rfl ?_
  refine lst_assign rfl rfl ?_
  refine lst_assign rfl rfl ?_
  refine lst_assign rfl rfl ?_
  refine lst_nil ?_
  refine ex_then ?_
  refine cod_seq ?_
  refine cod_region ?_
  refine lst_fn (X := Nat) (vs := []) (p := fun _ => True) (val := fun b => .slice (some ⟨b, 0, none⟩) 4 4) (rs := fun b => [.blk b (.cells (sAgs.flatMap Ag.cells).toArray 24 (0, 0))]) rfl rfl F.ent71 (fun a w ha => (s_c w).mono (fun e w' h => by obtain ⟨b, h1, h2⟩ := h; exact ⟨b, trivial, h1, h2⟩)) ?_
  intro s5 _
  dsimp only [List.cons_append, List.nil_append]
  refine lst_lit (vs := [(0, _), (1, _)]) rfl rfl Tryd.underlying25 F.ti3 rfl rfl rfl ?_
  intro b40
  refine lst_fn (X := Option Addr × Nat) (vs := [_, _, _]) (p := fun _ => True) (val := fun x => .tuple #[.slice x.1 2 x.2, .int .i64 0]) (rs := fun x => [.row 3 1 x.1 2 x.2 (ints [0, 1])]) rfl rfl F.ent28 (fun a w ha => by
    exact (Both_ok (some ⟨s5, 0, none⟩) 4 sAgs sOks (some ⟨b40, 0, none⟩) 2 [1, 3] 0 (by decide) (by decide) (by decide) (by decide) w (blk_reads ha (cells := Ag.cells) (size := 5) (b := s5) (l := sAgs) (fun _ => rfl) rfl) (blk_reads ha (cells := ncell) (size := 1) (b := b40) (l := [1, 3]) (fun _ => rfl) rfl)).mono (fun e w' h => by obtain ⟨o, h1, h2, h3⟩ := h; obtain ⟨k, rfl, hk⟩ := found_firstB (show FoundO sAgs 15 2 5 (1, 3, 0) (fun t => clearT 0 t 2) o from h1) (by decide) ex_both; exact ⟨(k.A, k.c), trivial, by rw [h2]; simp [wayO, hk], by simpa [wayO, hk] using h3⟩)) ?_
  rintro ⟨A5, c5⟩ -
  dsimp only [List.cons_append, List.nil_append]
  refine lst_move rfl rfl ?_
  refine lst_extract rfl rfl rfl ?_
  refine lst_extract rfl rfl rfl ?_
  refine lst_assign rfl rfl ?_
  refine lst_assign rfl rfl ?_
  refine lst_nil ?_
  refine ex_then ?_
  refine cod_seq ?_
  refine cod_region ?_
  refine lst_fn (X := Nat) (vs := []) (p := fun _ => True) (val := fun b => .slice (some ⟨b, 0, none⟩) 4 4) (rs := fun b => [.blk b (.cells (sAgs.flatMap Ag.cells).toArray 24 (0, 0))]) rfl rfl F.ent71 (fun a w ha => (s_c w).mono (fun e w' h => by obtain ⟨b, h1, h2⟩ := h; exact ⟨b, trivial, h1, h2⟩)) ?_
  intro s6 _
  dsimp only [List.cons_append, List.nil_append]
  refine lst_fn (X := Option Addr × Nat) (vs := [_, _, _]) (p := fun _ => True) (val := fun x => .tuple #[.slice x.1 1 x.2, .int .i64 0]) (rs := fun x => [.row 3 1 x.1 1 x.2 (ints [1])]) rfl rfl F.ent30 (fun a w ha => by
    exact (Tells_ok (some ⟨s6, 0, none⟩) 4 sAgs sOks 2 6 (by decide) (by decide) w (blk_reads ha (cells := Ag.cells) (size := 5) (b := s6) (l := sAgs) (fun _ => rfl) rfl)).mono (fun e w' h => by obtain ⟨o, A', c', h1, h2, h3⟩ := h; obtain ⟨k, rfl, hk⟩ := found_firstB (show FoundO sAgs 15 2 4 (2, 6, 0) (tellsG sAgs) o from h1) (by decide) ex_tells; have ht : k.team = (2, 6, 0) := (by have h4 := h1.2.1; rw [hk] at h4; exact (Option.some.inj h4).symm); have hl : tellsL sAgs (some k) = [1] := (by simp only [tellsL, hk, ht, ex_tellsI, List.nil_append]); rw [hl] at h2 h3; exact ⟨(A', c'), trivial, by rw [h2]; rfl, h3⟩)) ?_
  rintro ⟨A6, c6⟩ -
  dsimp only [List.cons_append, List.nil_append]
  refine lst_move rfl rfl ?_
  refine lst_extract rfl rfl rfl ?_
  refine lst_extract rfl rfl rfl ?_
  refine lst_assign rfl rfl ?_
  refine lst_assign rfl rfl ?_
  refine lst_nil ?_
  refine ex_then ?_
  refine cod_seq ?_
  refine cod_region ?_
  refine lst_move rfl rfl ?_
  refine lst_int rfl rfl rfl bin_eql ?_
  refine lst_move rfl rfl ?_
  refine lst_on rfl rfl ?_
  refine lst_move rfl rfl ?_
  refine lst_on rfl rfl ?_
  refine lst_int rfl rfl rfl bin_eql ?_
  refine lst_pick_true rfl rfl rfl ?_
  refine lst_move rfl rfl ?_
  refine lst_on rfl rfl ?_
  refine lst_move rfl rfl ?_
  refine lst_on rfl rfl ?_
  refine lst_int rfl rfl rfl bin_eql ?_
  refine lst_pick_true rfl rfl rfl ?_
  refine lst_move rfl rfl ?_
  refine lst_on rfl rfl ?_
  refine lst_move rfl rfl ?_
  refine lst_on rfl rfl ?_
  refine lst_int rfl rfl rfl bin_eql ?_
  refine lst_pick_true rfl rfl rfl ?_
  refine lst_move rfl rfl ?_
  refine lst_on rfl rfl ?_
  refine lst_move rfl rfl ?_
  refine lst_on rfl rfl ?_
  refine lst_int rfl rfl rfl bin_eql ?_
  refine lst_pick_true rfl rfl rfl ?_
  refine lst_move rfl rfl ?_
  refine lst_on rfl rfl ?_
  refine lst_move rfl rfl ?_
  refine lst_on rfl rfl ?_
  refine lst_int rfl rfl rfl bin_eql ?_
  refine lst_pick_true rfl rfl rfl ?_
  refine lst_move rfl rfl ?_
  refine lst_on rfl rfl ?_
  refine lst_move rfl rfl ?_
  refine lst_on rfl rfl ?_
  refine lst_int rfl rfl rfl bin_eql ?_
  refine lst_pick_true rfl rfl rfl ?_
  refine lst_move rfl rfl ?_
  refine lst_on rfl rfl ?_
  refine lst_move rfl rfl ?_
  refine lst_on rfl rfl ?_
  refine lst_int rfl rfl rfl bin_eql ?_
  refine lst_pick_true rfl rfl rfl ?_
  refine lst_move rfl rfl ?_
  refine lst_on rfl rfl ?_
  refine lst_move rfl rfl ?_
  refine lst_on rfl rfl ?_
  refine lst_int rfl rfl rfl bin_eql ?_
  refine lst_pick_true rfl rfl rfl ?_
  refine lst_move rfl rfl ?_
  refine lst_on rfl rfl ?_
  refine lst_move rfl rfl ?_
  refine lst_on rfl rfl ?_
  refine lst_lit (vs := [(0, _), (1, _), (2, _)]) rfl rfl Tryd.underlying25 F.ti3 rfl rfl rfl ?_
  intro b85
  refine lst_on rfl rfl ?_
  refine lst_fn0 (v := .bool true) (vs := [_, _]) rfl rfl F.ent32 (fun a w ha => (eqInts_c A1 (some ⟨b85, 0, none⟩) c1 3 [3, 2, 0] [3, 2, 0] (by decide) w (row_reads ha (cells := icell) (size := 1) (e := 3) (c := c1) (n := 3) (l := [3, 2, 0]) (fun _ => rfl) (InR.mem (A := A1)) rfl) (blk_reads ha (cells := icell) (size := 1) (b := b85) (l := [3, 2, 0]) (fun _ => rfl) rfl)).mono (fun e w' h => ⟨h.1.trans (by simp), h.2⟩)) ?_
  refine lst_pick_true rfl rfl rfl ?_
  refine lst_move rfl rfl ?_
  refine lst_on rfl rfl ?_
  refine lst_move rfl rfl ?_
  refine lst_on rfl rfl ?_
  refine lst_lit (vs := [(0, _), (1, _)]) rfl rfl Tryd.underlying25 F.ti3 rfl rfl rfl ?_
  intro b90
  refine lst_on rfl rfl ?_
  refine lst_fn0 (v := .bool true) (vs := [_, _]) rfl rfl F.ent32 (fun a w ha => (eqInts_c A2 (some ⟨b90, 0, none⟩) c2 2 [0, 3] [0, 3] (by decide) w (row_reads ha (cells := icell) (size := 1) (e := 3) (c := c2) (n := 2) (l := [0, 3]) (fun _ => rfl) (InR.mem (A := A2)) rfl) (blk_reads ha (cells := icell) (size := 1) (b := b90) (l := [0, 3]) (fun _ => rfl) rfl)).mono (fun e w' h => ⟨h.1.trans (by simp), h.2⟩)) ?_
  refine lst_pick_true rfl rfl rfl ?_
  refine lst_move rfl rfl ?_
  refine lst_on rfl rfl ?_
  refine lst_move rfl rfl ?_
  refine lst_on rfl rfl ?_
  refine lst_lit (vs := [(0, _), (1, _), (2, _)]) rfl rfl Tryd.underlying25 F.ti3 rfl rfl rfl ?_
  intro b95
  refine lst_on rfl rfl ?_
  refine lst_fn0 (v := .bool true) (vs := [_, _]) rfl rfl F.ent32 (fun a w ha => (eqInts_c A3 (some ⟨b95, 0, none⟩) c3 3 [2, 0, 1] [2, 0, 1] (by decide) w (row_reads ha (cells := icell) (size := 1) (e := 3) (c := c3) (n := 3) (l := [2, 0, 1]) (fun _ => rfl) (InR.mem (A := A3)) rfl) (blk_reads ha (cells := icell) (size := 1) (b := b95) (l := [2, 0, 1]) (fun _ => rfl) rfl)).mono (fun e w' h => ⟨h.1.trans (by simp), h.2⟩)) ?_
  refine lst_pick_true rfl rfl rfl ?_
  refine lst_move rfl rfl ?_
  refine lst_on rfl rfl ?_
  refine lst_move rfl rfl ?_
  refine lst_on rfl rfl ?_
  refine lst_lit (vs := [(0, _), (1, _)]) rfl rfl Tryd.underlying25 F.ti3 rfl rfl rfl ?_
  intro b100
  refine lst_on rfl rfl ?_
  refine lst_fn0 (v := .bool true) (vs := [_, _]) rfl rfl F.ent32 (fun a w ha => (eqInts_c A5 (some ⟨b100, 0, none⟩) c5 2 [0, 1] [0, 1] (by decide) w (row_reads ha (cells := icell) (size := 1) (e := 3) (c := c5) (n := 2) (l := [0, 1]) (fun _ => rfl) (InR.mem (A := A5)) rfl) (blk_reads ha (cells := icell) (size := 1) (b := b100) (l := [0, 1]) (fun _ => rfl) rfl)).mono (fun e w' h => ⟨h.1.trans (by simp), h.2⟩)) ?_
  refine lst_pick_true rfl rfl rfl ?_
  refine lst_move rfl rfl ?_
  refine lst_on rfl rfl ?_
  refine lst_move rfl rfl ?_
  refine lst_on rfl rfl ?_
  refine lst_lit (vs := [(0, _)]) rfl rfl Tryd.underlying25 F.ti3 rfl rfl rfl ?_
  intro b105
  refine lst_on rfl rfl ?_
  refine lst_fn0 (v := .bool true) (vs := [_, _]) rfl rfl F.ent32 (fun a w ha => (eqInts_c A6 (some ⟨b105, 0, none⟩) c6 1 [1] [1] (by decide) w (row_reads ha (cells := icell) (size := 1) (e := 3) (c := c6) (n := 1) (l := [1]) (fun _ => rfl) (InR.mem (A := A6)) rfl) (blk_reads ha (cells := icell) (size := 1) (b := b105) (l := [1]) (fun _ => rfl) rfl)).mono (fun e w' h => ⟨h.1.trans (by simp), h.2⟩)) ?_
  refine lst_pick_true rfl rfl rfl ?_
  refine lst_assign rfl rfl ?_
  refine lst_nil ?_
  refine ex_then ?_
  refine cod_ret ?_
  exact ex_ret rfl (fun a w ha => res_one rfl rfl ha) (fun a w ha => ⟨rfl, ha.grown (List.nil_sublist _)⟩)

end Go.Proofs.YtofkhehcnfiopaaDoor.N
namespace Go.Proofs.YtofkhehcnfiopaaDoor.N
open Go Go.RowKit Go.Proofs
set_option linter.unusedSectionVars false
variable [I : Sys]
theorem u64_some (z : Int) : ∃ m : Nat, m < 18446744073709551616 ∧ IntKind.u64.wrap z = (m : Int) := by
  refine ⟨(IntKind.u64.wrap z).toNat, ?_, ?_⟩
  · simp [IntKind.wrap, IntKind.signed, IntKind.bits]
    omega
  · simp [IntKind.wrap, IntKind.signed, IntKind.bits]
    omega
theorem xor64 {a b : Nat} (ha : a < 18446744073709551616) (hb : b < 18446744073709551616) : a ^^^ b < 18446744073709551616 := Nat.xor_lt_two_pow (n := 64) ha hb
theorem shr64 {a : Nat} (k : Nat) (ha : a < 18446744073709551616) : a >>> k < 18446744073709551616 := Nat.lt_of_le_of_lt (by rw [Nat.shiftRight_eq_div_pow]; exact Nat.div_le_self _ _) ha
theorem wrap_u64_succ {m : Nat} (h : m < 18446744073709551615) : IntKind.u64.wrap ((m : Int) + 1) = ((m + 1 : Nat) : Int) := by
  have := wrap_u64 (m + 1) (by omega)
  simpa using this
theorem tmod_nat (x m : Nat) : (x : Int).tmod ((m : Nat) : Int) = ((x % m : Nat) : Int) := (Int.ofNat_tmod x m).symm
end Go.Proofs.YtofkhehcnfiopaaDoor.N
namespace Go.Proofs.YtofkhehcnfiopaaDoor.N
open Go Go.RowKit Go.Proofs
set_option linter.unusedSectionVars false
variable [I : Sys]
theorem F.ent73 : Enters Tryd.prog 73 := enters_of Tryd.func73 rfl (by kernel_rfl)
theorem F.fi68_0 : FI Tryd.prog 68 0 25 0 := ⟨_, _, Tryd.underlying68, rfl, rfl, rfl⟩
theorem F.fi68_1 : FI Tryd.prog 68 1 3 1 := ⟨_, _, Tryd.underlying68, rfl, rfl, rfl⟩
theorem F.fi68_2 : FI Tryd.prog 68 2 66 2 := ⟨_, _, Tryd.underlying68, rfl, rfl, rfl⟩
theorem F.one66 : One Tryd.prog 66 := ⟨by unfold aggB; rw [Tryd.underlying66], by rw [Tryd.underlying66]; simp⟩
theorem F.ti66 : TI Tryd.prog 66 (.int .u64 0) 1 8 := TI.of (by kernel_rfl)
theorem stir_c {C : Ctx} {fr : List (Nat × Value)} {T : List Res} {a : Act} {w : World} (hC : C.P = Tryd.prog) {hb tk st nc : Nat} {nA : Option Addr} {nums : List Int} (hB : C.w0.heap.size = C.B) (hN : RdL icell 1 C.w0 nA nums) (htk : tk ≤ 1000000) (hst : st < 18446744073709551616) (ha : At C fr (.blk hb (.cells [.slice nA nums.length nc, .int .i64 (tk : Int), .int .u64 (st : Int)].toArray 68 (0, 0)) :: T) a w) : Calls C.P 73 #[.pointer (some ⟨hb, 0, none⟩)] w fun e w' => ∃ st' x : Nat, st' < 18446744073709551616 ∧ x < 18446744073709551616 ∧ e = .returned (.int .u64 (x : Int)) ∧ At C fr (.blk hb (.cells [.slice nA nums.length nc, .int .i64 ((tk + 1 : Nat) : Int), .int .u64 (st' : Int)].toArray 68 (0, 0)) :: T) a w' := by
  obtain ⟨P, B, w0, N0, ds⟩ := C
  obtain rfl : P = Tryd.prog := hC
  (try dsimp only at hB)
  (try dsimp only at hN)
  refine enter_in (N := 75) [(0, .pointer (some ⟨hb, 0, none⟩))] ha Tryd.func73 rfl Tryd.ntmps73 rfl rfl ?_
  refine cod_seq ?_
  refine cod_region ?_
  refine lst_assign rfl rfl ?_
  refine lst_nil ?_
  refine ex_then ?_
  refine cod_seq ?_
  refine cod_region ?_
  refine lst_move rfl rfl ?_
  refine lst_nilCheck rfl rfl ?_
  refine lst_field_z rfl rfl F.fi68_1 F.ti3 ?_
  refine lst_load rfl rfl F.one3 ?_
  obtain ⟨v9, hv9, ev9⟩ := u64_some (tk : Int)
  refine lst_convert rfl rfl Tryd.underlying3 Tryd.underlying66 ev9 ?_
  obtain ⟨v10, hv10, ev10⟩ := u64_some ((v9 : Int) + 1)
  refine lst_int rfl rfl rfl (fun w => bin_add w ev10) ?_
  refine lst_assign rfl rfl ?_
  refine lst_nil ?_
  refine ex_then ?_
  refine cod_seq ?_
  refine cod_seq ?_
  refine any_begin [] F.follows 10 rfl [false, false, false, false, false, false, false, false, false, false] rfl ?_
  refine any_take (listed' := [true, false, false, false, false, false, false, false, false, false].toArray) 0 rfl rfl rfl (by kernel_rfl) (by kernel_rfl) (by kernel_rfl) (by repeat (first | exact List.Sublist.refl _ | exact List.nil_sublist _ | refine List.Sublist.cons_cons _ ?_ | refine List.Sublist.cons _ ?_)) (yld_move rfl) rfl ?_
  refine any_take (listed' := [true, true, false, false, false, false, false, false, false, false].toArray) 1 rfl rfl rfl (by kernel_rfl) (by kernel_rfl) (by kernel_rfl) (by repeat (first | exact List.Sublist.refl _ | exact List.nil_sublist _ | refine List.Sublist.cons_cons _ ?_ | refine List.Sublist.cons _ ?_)) (yld_nilCheck rfl) rfl ?_
  refine any_take (listed' := [true, true, true, false, false, false, false, false, false, false].toArray) 2 rfl rfl rfl (by kernel_rfl) (by kernel_rfl) (by kernel_rfl) (by repeat (first | exact List.Sublist.refl _ | exact List.nil_sublist _ | refine List.Sublist.cons_cons _ ?_ | refine List.Sublist.cons _ ?_)) (yld_field_z rfl F.fi68_1 F.ti3) rfl ?_
  refine any_take (listed' := [true, true, true, true, false, false, false, false, false, false].toArray) 3 rfl rfl rfl (by kernel_rfl) (by kernel_rfl) (by kernel_rfl) (by repeat (first | exact List.Sublist.refl _ | exact List.nil_sublist _ | refine List.Sublist.cons_cons _ ?_ | refine List.Sublist.cons _ ?_)) (yld_load rfl F.one3) rfl ?_
  refine any_take (listed' := [true, true, true, true, true, false, false, false, false, false].toArray) 4 rfl rfl rfl (by kernel_rfl) (by kernel_rfl) (by kernel_rfl) (by repeat (first | exact List.Sublist.refl _ | exact List.nil_sublist _ | refine List.Sublist.cons_cons _ ?_ | refine List.Sublist.cons _ ?_)) (yld_move rfl) rfl ?_
  refine any_take (listed' := [true, true, true, true, true, true, false, false, false, false].toArray) 5 rfl rfl rfl (by kernel_rfl) (by kernel_rfl) (by kernel_rfl) (by repeat (first | exact List.Sublist.refl _ | exact List.nil_sublist _ | refine List.Sublist.cons_cons _ ?_ | refine List.Sublist.cons _ ?_)) (yld_nilCheck rfl) rfl ?_
  refine any_take (listed' := [true, true, true, true, true, true, true, false, false, false].toArray) 6 rfl rfl rfl (by kernel_rfl) (by kernel_rfl) (by kernel_rfl) (by repeat (first | exact List.Sublist.refl _ | exact List.nil_sublist _ | refine List.Sublist.cons_cons _ ?_ | refine List.Sublist.cons _ ?_)) (yld_field_z rfl F.fi68_0 F.ti25) rfl ?_
  refine any_take (listed' := [true, true, true, true, true, true, true, true, false, false].toArray) 7 rfl rfl rfl (by kernel_rfl) (by kernel_rfl) (by kernel_rfl) (by repeat (first | exact List.Sublist.refl _ | exact List.nil_sublist _ | refine List.Sublist.cons_cons _ ?_ | refine List.Sublist.cons _ ?_)) (yld_load rfl F.one25) rfl ?_
  refine any_take (listed' := [true, true, true, true, true, true, true, true, true, false].toArray) 8 rfl rfl rfl (by kernel_rfl) (by kernel_rfl) (by kernel_rfl) (by repeat (first | exact List.Sublist.refl _ | exact List.nil_sublist _ | refine List.Sublist.cons_cons _ ?_ | refine List.Sublist.cons _ ?_)) (yld_len rfl Tryd.underlying25) rfl ?_
  refine any_take (listed' := [true, true, true, true, true, true, true, true, true, true].toArray) 9 rfl rfl rfl (by kernel_rfl) (by kernel_rfl) (by kernel_rfl) (by repeat (first | exact List.Sublist.refl _ | exact List.nil_sublist _ | refine List.Sublist.cons_cons _ ?_ | refine List.Sublist.cons _ ?_)) (yld_int rfl rfl bin_lss) rfl ?_
  refine any_done rfl (by kernel_rfl) ?_
  refine ex_then ?_
  refine cod_cond_dec rfl (fun hc0 => ?_) (fun hc0 => ?_)
  · skip
    have hk' : tk < nums.length := by omega
    obtain ⟨b, o, rfl, hb', hcell⟩ := hN (by omega)
    obtain ⟨x, hx⟩ : ∃ x, nums[tk]? = some x := ⟨_, List.getElem?_eq_getElem hk'⟩
    obtain ⟨v32, hv32, ev32⟩ := u64_some x
    obtain ⟨v33, hv33, ev33⟩ := u64_some ((v32 : Int) * 13787848793156543929)
    refine any_begin [] F.follows 15 rfl [false, false, false, false, false, false, false, false, false, false, false, false, false, false, false] rfl ?_
    refine any_take (listed' := [true, false, false, false, false, false, false, false, false, false, false, false, false, false, false].toArray) 0 rfl rfl rfl (by kernel_rfl) (by kernel_rfl) (by kernel_rfl) (by repeat (first | exact List.Sublist.refl _ | exact List.nil_sublist _ | refine List.Sublist.cons_cons _ ?_ | refine List.Sublist.cons _ ?_)) (yld_move rfl) rfl ?_
    refine any_take (listed' := [true, true, false, false, false, false, false, false, false, false, false, false, false, false, false].toArray) 1 rfl rfl rfl (by kernel_rfl) (by kernel_rfl) (by kernel_rfl) (by repeat (first | exact List.Sublist.refl _ | exact List.nil_sublist _ | refine List.Sublist.cons_cons _ ?_ | refine List.Sublist.cons _ ?_)) (yld_move rfl) rfl ?_
    refine any_take (listed' := [true, true, true, false, false, false, false, false, false, false, false, false, false, false, false].toArray) 2 rfl rfl rfl (by kernel_rfl) (by kernel_rfl) (by kernel_rfl) (by repeat (first | exact List.Sublist.refl _ | exact List.nil_sublist _ | refine List.Sublist.cons_cons _ ?_ | refine List.Sublist.cons _ ?_)) (yld_nilCheck rfl) rfl ?_
    refine any_take (listed' := [true, true, true, true, false, false, false, false, false, false, false, false, false, false, false].toArray) 3 rfl rfl rfl (by kernel_rfl) (by kernel_rfl) (by kernel_rfl) (by repeat (first | exact List.Sublist.refl _ | exact List.nil_sublist _ | refine List.Sublist.cons_cons _ ?_ | refine List.Sublist.cons _ ?_)) (yld_field_z rfl F.fi68_0 F.ti25) rfl ?_
    refine any_take (listed' := [true, true, true, true, true, false, false, false, false, false, false, false, false, false, false].toArray) 4 rfl rfl rfl (by kernel_rfl) (by kernel_rfl) (by kernel_rfl) (by repeat (first | exact List.Sublist.refl _ | exact List.nil_sublist _ | refine List.Sublist.cons_cons _ ?_ | refine List.Sublist.cons _ ?_)) (yld_load rfl F.one25) rfl ?_
    refine any_take (listed' := [true, true, true, true, true, true, false, false, false, false, false, false, false, false, false].toArray) 5 rfl rfl rfl (by kernel_rfl) (by kernel_rfl) (by kernel_rfl) (by repeat (first | exact List.Sublist.refl _ | exact List.nil_sublist _ | refine List.Sublist.cons_cons _ ?_ | refine List.Sublist.cons _ ?_)) (yld_move rfl) rfl ?_
    refine any_take (listed' := [true, true, true, true, true, true, true, false, false, false, false, false, false, false, false].toArray) 6 rfl rfl rfl (by kernel_rfl) (by kernel_rfl) (by kernel_rfl) (by repeat (first | exact List.Sublist.refl _ | exact List.nil_sublist _ | refine List.Sublist.cons_cons _ ?_ | refine List.Sublist.cons _ ?_)) (yld_nilCheck rfl) rfl ?_
    refine any_take (listed' := [true, true, true, true, true, true, true, true, false, false, false, false, false, false, false].toArray) 7 rfl rfl rfl (by kernel_rfl) (by kernel_rfl) (by kernel_rfl) (by repeat (first | exact List.Sublist.refl _ | exact List.nil_sublist _ | refine List.Sublist.cons_cons _ ?_ | refine List.Sublist.cons _ ?_)) (yld_field_z rfl F.fi68_1 F.ti3) rfl ?_
    refine any_take (listed' := [true, true, true, true, true, true, true, true, true, false, false, false, false, false, false].toArray) 8 rfl rfl rfl (by kernel_rfl) (by kernel_rfl) (by kernel_rfl) (by repeat (first | exact List.Sublist.refl _ | exact List.nil_sublist _ | refine List.Sublist.cons_cons _ ?_ | refine List.Sublist.cons _ ?_)) (yld_load rfl F.one3) rfl ?_
    refine any_take (listed' := [true, true, true, true, true, true, true, true, true, true, false, false, false, false, false].toArray) 9 rfl rfl rfl (by kernel_rfl) (by kernel_rfl) (by kernel_rfl) (by repeat (first | exact List.Sublist.refl _ | exact List.nil_sublist _ | refine List.Sublist.cons_cons _ ?_ | refine List.Sublist.cons _ ?_)) (yld_index (j := tk) rfl rfl Tryd.underlying25 F.ti3 rfl hk') rfl ?_
    refine any_take (listed' := [true, true, true, true, true, true, true, true, true, true, true, false, false, false, false].toArray) 10 rfl rfl rfl (by kernel_rfl) (by kernel_rfl) (by kernel_rfl) (by repeat (first | exact List.Sublist.refl _ | exact List.nil_sublist _ | refine List.Sublist.cons_cons _ ?_ | refine List.Sublist.cons _ ?_)) (yld_load_at (v := .int .i64 x) rfl F.one3 (fun a w ha => ha.old (hcell tk x hx 0 _ rfl) (Nat.lt_of_lt_of_le hb' (Nat.le_of_eq hB)))) rfl ?_
    refine any_one (listed' := [true, true, true, true, true, true, true, true, true, true, true, true, false, false, false].toArray) 11 (by kernel_rfl) rfl rfl ?_
    refine lst_convert rfl rfl Tryd.underlying3 Tryd.underlying66 ev32 ?_
    refine lst_nil ?_
    refine any_next (by repeat (first | exact List.Sublist.refl _ | exact List.nil_sublist _ | refine List.Sublist.cons_cons _ ?_ | refine List.Sublist.cons _ ?_)) ?_
    refine any_one (listed' := [true, true, true, true, true, true, true, true, true, true, true, true, true, false, false].toArray) 12 (by kernel_rfl) rfl rfl ?_
    refine lst_int rfl rfl rfl (fun w => bin_mul w ev33) ?_
    refine lst_nil ?_
    refine any_next (by repeat (first | exact List.Sublist.refl _ | exact List.nil_sublist _ | refine List.Sublist.cons_cons _ ?_ | refine List.Sublist.cons _ ?_)) ?_
    refine any_one (listed' := [true, true, true, true, true, true, true, true, true, true, true, true, true, true, false].toArray) 13 (by kernel_rfl) rfl rfl ?_
    refine lst_int rfl rfl rfl (fun w => bin_xor w (u64_xor v10 v33 hv10 hv33)) ?_
    refine lst_nil ?_
    refine any_next (by repeat (first | exact List.Sublist.refl _ | exact List.nil_sublist _ | refine List.Sublist.cons_cons _ ?_ | refine List.Sublist.cons _ ?_)) ?_
    refine any_take (listed' := [true, true, true, true, true, true, true, true, true, true, true, true, true, true, true].toArray) 14 rfl rfl rfl (by kernel_rfl) (by kernel_rfl) (by kernel_rfl) (by repeat (first | exact List.Sublist.refl _ | exact List.nil_sublist _ | refine List.Sublist.cons_cons _ ?_ | refine List.Sublist.cons _ ?_)) (yld_assign rfl) rfl ?_
    refine any_done rfl (by kernel_rfl) ?_
    obtain ⟨q, hqe⟩ : ∃ q, q = v10 ^^^ v33 := ⟨_, rfl⟩
    have hq : q < 18446744073709551616 := by rw [hqe]; exact xor64 hv10 hv33
    rw [← hqe]
    refine ex_then ?_
    refine cod_seq ?_
    refine cod_region ?_
    refine lst_move rfl rfl ?_
    refine lst_nilCheck rfl rfl ?_
    refine lst_field_z rfl rfl F.fi68_1 F.ti3 ?_
    refine lst_load rfl rfl F.one3 ?_
    refine lst_int rfl rfl rfl (fun w => bin_add w (show IntKind.i64.wrap ((tk : Int) + 1) = ((tk + 1 : Nat) : Int) from wrap_i64' _ (by omega) (by omega))) ?_
    refine lst_nilCheck rfl rfl ?_
    refine lst_field_z rfl rfl F.fi68_1 F.ti3 ?_
    refine lst_store rfl rfl F.ti3 rfl ?_
    refine lst_nil ?_
    refine ex_then ?_
    refine cod_seq ?_
    refine cod_region ?_
    refine lst_move rfl rfl ?_
    refine lst_move rfl rfl ?_
    refine lst_nilCheck rfl rfl ?_
    refine lst_field_z rfl rfl F.fi68_2 F.ti66 ?_
    refine lst_load rfl rfl F.one66 ?_
    refine lst_move rfl rfl ?_
    refine lst_int rfl rfl rfl (fun w => bin_xor w (u64_xor st q hst hq)) ?_
    obtain ⟨v49, hv49, ev49⟩ := u64_some (((st ^^^ q : Nat) : Int) * 10723151780598845931)
    refine lst_int rfl rfl rfl (fun w => bin_mul w ev49) ?_
    refine lst_nilCheck rfl rfl ?_
    refine lst_field_z rfl rfl F.fi68_2 F.ti66 ?_
    refine lst_store rfl rfl F.ti66 rfl ?_
    refine lst_nil ?_
    refine ex_then ?_
    refine cod_seq ?_
    refine any_begin [.b hb] F.follows 14 rfl [false, false, false, false, false, false, false, false, false, false, false, false, false, false] rfl ?_
    refine any_take (listed' := [true, false, false, false, false, false, false, false, false, false, false, false, false, false].toArray) 0 rfl rfl rfl (by kernel_rfl) (by kernel_rfl) (by kernel_rfl) (by repeat (first | exact List.Sublist.refl _ | exact List.nil_sublist _ | refine List.Sublist.cons_cons _ ?_ | refine List.Sublist.cons _ ?_)) (yld_move rfl) rfl ?_
    refine any_take (listed' := [true, true, false, false, false, false, false, false, false, false, false, false, false, false].toArray) 1 rfl rfl rfl (by kernel_rfl) (by kernel_rfl) (by kernel_rfl) (by repeat (first | exact List.Sublist.refl _ | exact List.nil_sublist _ | refine List.Sublist.cons_cons _ ?_ | refine List.Sublist.cons _ ?_)) (yld_move rfl) rfl ?_
    refine any_take (listed' := [true, true, true, false, false, false, false, false, false, false, false, false, false, false].toArray) 2 rfl rfl rfl (by kernel_rfl) (by kernel_rfl) (by kernel_rfl) (by repeat (first | exact List.Sublist.refl _ | exact List.nil_sublist _ | refine List.Sublist.cons_cons _ ?_ | refine List.Sublist.cons _ ?_)) (yld_nilCheck rfl) rfl ?_
    refine any_take (listed' := [true, true, true, true, false, false, false, false, false, false, false, false, false, false].toArray) 3 rfl rfl rfl (by kernel_rfl) (by kernel_rfl) (by kernel_rfl) (by repeat (first | exact List.Sublist.refl _ | exact List.nil_sublist _ | refine List.Sublist.cons_cons _ ?_ | refine List.Sublist.cons _ ?_)) (yld_field_z rfl F.fi68_2 F.ti66) rfl ?_
    refine any_take (listed' := [true, true, true, true, false, true, false, false, false, false, false, false, false, false].toArray) 5 rfl rfl rfl (by kernel_rfl) (by kernel_rfl) (by kernel_rfl) (by repeat (first | exact List.Sublist.refl _ | exact List.nil_sublist _ | refine List.Sublist.cons_cons _ ?_ | refine List.Sublist.cons _ ?_)) (yld_move rfl) rfl ?_
    refine any_take (listed' := [true, true, true, true, false, true, true, false, false, false, false, false, false, false].toArray) 6 rfl rfl rfl (by kernel_rfl) (by kernel_rfl) (by kernel_rfl) (by repeat (first | exact List.Sublist.refl _ | exact List.nil_sublist _ | refine List.Sublist.cons_cons _ ?_ | refine List.Sublist.cons _ ?_)) (yld_nilCheck rfl) rfl ?_
    refine any_take (listed' := [true, true, true, true, false, true, true, true, false, false, false, false, false, false].toArray) 7 rfl rfl rfl (by kernel_rfl) (by kernel_rfl) (by kernel_rfl) (by repeat (first | exact List.Sublist.refl _ | exact List.nil_sublist _ | refine List.Sublist.cons_cons _ ?_ | refine List.Sublist.cons _ ?_)) (yld_field_z rfl F.fi68_2 F.ti66) rfl ?_
    refine any_two (l1 := [true, true, true, true, true, true, true, true, false, false, false, false, false, false].toArray) (l2 := [true, true, true, true, false, true, true, true, true, false, false, false, false, false].toArray) 4 8 (by kernel_rfl) rfl rfl rfl rfl ?_ ?_
    · skip
      refine lst_load rfl rfl F.one66 ?_
      refine lst_nil ?_
      refine any_next (by repeat (first | exact List.Sublist.refl _ | exact List.nil_sublist _ | refine List.Sublist.cons_cons _ ?_ | refine List.Sublist.cons _ ?_)) ?_
      refine any_one (listed' := [true, true, true, true, true, true, true, true, true, false, false, false, false, false].toArray) 8 (by kernel_rfl) rfl rfl ?_
      refine lst_load rfl rfl F.one66 ?_
      refine lst_nil ?_
      refine any_next (by repeat (first | exact List.Sublist.refl _ | exact List.nil_sublist _ | refine List.Sublist.cons_cons _ ?_ | refine List.Sublist.cons _ ?_)) ?_
      refine any_one (listed' := [true, true, true, true, true, true, true, true, true, true, false, false, false, false].toArray) 9 (by kernel_rfl) rfl rfl ?_
      refine lst_shr rfl rfl rfl (by omega) (fdiv_shr v49 31 _) ?_
      refine lst_nil ?_
      refine any_next (by repeat (first | exact List.Sublist.refl _ | exact List.nil_sublist _ | refine List.Sublist.cons_cons _ ?_ | refine List.Sublist.cons _ ?_)) ?_
      refine any_one (listed' := [true, true, true, true, true, true, true, true, true, true, true, false, false, false].toArray) 10 (by kernel_rfl) rfl rfl ?_
      refine lst_int rfl rfl rfl (fun w => bin_xor w (u64_xor v49 (v49 >>> (min 31 64)) hv49 (shr64 _ hv49))) ?_
      refine lst_nil ?_
      refine any_next (by repeat (first | exact List.Sublist.refl _ | exact List.nil_sublist _ | refine List.Sublist.cons_cons _ ?_ | refine List.Sublist.cons _ ?_)) ?_
      refine any_take (listed' := [true, true, true, true, true, true, true, true, true, true, true, true, false, false].toArray) 11 rfl rfl rfl (by kernel_rfl) (by kernel_rfl) (by kernel_rfl) (by repeat (first | exact List.Sublist.refl _ | exact List.nil_sublist _ | refine List.Sublist.cons_cons _ ?_ | refine List.Sublist.cons _ ?_)) (yld_nilCheck rfl) rfl ?_
      refine any_take (listed' := [true, true, true, true, true, true, true, true, true, true, true, true, true, false].toArray) 12 rfl rfl rfl (by kernel_rfl) (by kernel_rfl) (by kernel_rfl) (by repeat (first | exact List.Sublist.refl _ | exact List.nil_sublist _ | refine List.Sublist.cons_cons _ ?_ | refine List.Sublist.cons _ ?_)) (yld_field_z rfl F.fi68_2 F.ti66) rfl ?_
      refine any_one (listed' := [true, true, true, true, true, true, true, true, true, true, true, true, true, true].toArray) 13 (by kernel_rfl) rfl rfl ?_
      refine lst_store rfl rfl F.ti66 rfl ?_
      refine lst_nil ?_
      refine any_next (by repeat (first | exact List.Sublist.refl _ | exact List.nil_sublist _ | refine List.Sublist.cons_cons _ ?_ | refine List.Sublist.cons _ ?_)) ?_
      refine any_done rfl (by kernel_rfl) ?_
      refine ex_then ?_
      refine cod_seq ?_
      refine cod_region ?_
      obtain ⟨s2, hs2e⟩ : ∃ s2, s2 = v49 ^^^ (v49 >>> (min 31 64)) := ⟨_, rfl⟩
      have hs2 : s2 < 18446744073709551616 := by rw [hs2e]; exact xor64 hv49 (shr64 _ hv49)
      rw [← hs2e]
      obtain ⟨v69, hv69, ev69⟩ := u64_some ((s2 : Int) * 15485907386658061715)
      refine lst_move rfl rfl ?_
      refine lst_nilCheck rfl rfl ?_
      refine lst_field_z rfl rfl F.fi68_2 F.ti66 ?_
      refine lst_load rfl rfl F.one66 ?_
      refine lst_int rfl rfl rfl (fun w => bin_mul w ev69) ?_
      refine lst_assign rfl rfl ?_
      refine lst_nil ?_
      refine ex_then ?_
      refine cod_seq ?_
      refine cod_region ?_
      refine lst_move rfl rfl ?_
      refine lst_move rfl rfl ?_
      refine lst_shr rfl rfl rfl (by omega) (fdiv_shr v69 32 _) ?_
      refine lst_int rfl rfl rfl (fun w => bin_xor w (u64_xor v69 (v69 >>> (min 32 64)) hv69 (shr64 _ hv69))) ?_
      refine lst_shr rfl rfl rfl (by omega) (fdiv_shr (v69 ^^^ (v69 >>> (min 32 64))) 9 _) ?_
      refine lst_assign rfl rfl ?_
      refine lst_nil ?_
      refine ex_then ?_
      refine cod_ret ?_
      exact ex_ret rfl (fun a w ha => res_one rfl rfl ha) (fun _ _ ha' => ⟨s2, _, hs2, shr64 _ (xor64 hv69 (shr64 _ hv69)), rfl, ha.back (ha'.pck (by repeat (first | exact Pck.nil _ | exact Pck.refl _ | (apply Pck.cons; focus ((repeat (first | exact Rem.here _ | apply Rem.there)); done)) | refine Pck.skip _ ?_)))⟩)
    · skip
      refine lst_load rfl rfl F.one66 ?_
      refine lst_nil ?_
      refine any_next (by repeat (first | exact List.Sublist.refl _ | exact List.nil_sublist _ | refine List.Sublist.cons_cons _ ?_ | refine List.Sublist.cons _ ?_)) ?_
      refine any_two (l1 := [true, true, true, true, true, true, true, true, true, false, false, false, false, false].toArray) (l2 := [true, true, true, true, false, true, true, true, true, true, false, false, false, false].toArray) 4 9 (by kernel_rfl) rfl rfl rfl rfl ?_ ?_
      · skip
        refine lst_load rfl rfl F.one66 ?_
        refine lst_nil ?_
        refine any_next (by repeat (first | exact List.Sublist.refl _ | exact List.nil_sublist _ | refine List.Sublist.cons_cons _ ?_ | refine List.Sublist.cons _ ?_)) ?_
        refine any_one (listed' := [true, true, true, true, true, true, true, true, true, true, false, false, false, false].toArray) 9 (by kernel_rfl) rfl rfl ?_
        refine lst_shr rfl rfl rfl (by omega) (fdiv_shr v49 31 _) ?_
        refine lst_nil ?_
        refine any_next (by repeat (first | exact List.Sublist.refl _ | exact List.nil_sublist _ | refine List.Sublist.cons_cons _ ?_ | refine List.Sublist.cons _ ?_)) ?_
        refine any_one (listed' := [true, true, true, true, true, true, true, true, true, true, true, false, false, false].toArray) 10 (by kernel_rfl) rfl rfl ?_
        refine lst_int rfl rfl rfl (fun w => bin_xor w (u64_xor v49 (v49 >>> (min 31 64)) hv49 (shr64 _ hv49))) ?_
        refine lst_nil ?_
        refine any_next (by repeat (first | exact List.Sublist.refl _ | exact List.nil_sublist _ | refine List.Sublist.cons_cons _ ?_ | refine List.Sublist.cons _ ?_)) ?_
        refine any_take (listed' := [true, true, true, true, true, true, true, true, true, true, true, true, false, false].toArray) 11 rfl rfl rfl (by kernel_rfl) (by kernel_rfl) (by kernel_rfl) (by repeat (first | exact List.Sublist.refl _ | exact List.nil_sublist _ | refine List.Sublist.cons_cons _ ?_ | refine List.Sublist.cons _ ?_)) (yld_nilCheck rfl) rfl ?_
        refine any_take (listed' := [true, true, true, true, true, true, true, true, true, true, true, true, true, false].toArray) 12 rfl rfl rfl (by kernel_rfl) (by kernel_rfl) (by kernel_rfl) (by repeat (first | exact List.Sublist.refl _ | exact List.nil_sublist _ | refine List.Sublist.cons_cons _ ?_ | refine List.Sublist.cons _ ?_)) (yld_field_z rfl F.fi68_2 F.ti66) rfl ?_
        refine any_one (listed' := [true, true, true, true, true, true, true, true, true, true, true, true, true, true].toArray) 13 (by kernel_rfl) rfl rfl ?_
        refine lst_store rfl rfl F.ti66 rfl ?_
        refine lst_nil ?_
        refine any_next (by repeat (first | exact List.Sublist.refl _ | exact List.nil_sublist _ | refine List.Sublist.cons_cons _ ?_ | refine List.Sublist.cons _ ?_)) ?_
        refine any_done rfl (by kernel_rfl) ?_
        refine ex_then ?_
        refine cod_seq ?_
        refine cod_region ?_
        obtain ⟨s2, hs2e⟩ : ∃ s2, s2 = v49 ^^^ (v49 >>> (min 31 64)) := ⟨_, rfl⟩
        have hs2 : s2 < 18446744073709551616 := by rw [hs2e]; exact xor64 hv49 (shr64 _ hv49)
        rw [← hs2e]
        obtain ⟨v69, hv69, ev69⟩ := u64_some ((s2 : Int) * 15485907386658061715)
        refine lst_move rfl rfl ?_
        refine lst_nilCheck rfl rfl ?_
        refine lst_field_z rfl rfl F.fi68_2 F.ti66 ?_
        refine lst_load rfl rfl F.one66 ?_
        refine lst_int rfl rfl rfl (fun w => bin_mul w ev69) ?_
        refine lst_assign rfl rfl ?_
        refine lst_nil ?_
        refine ex_then ?_
        refine cod_seq ?_
        refine cod_region ?_
        refine lst_move rfl rfl ?_
        refine lst_move rfl rfl ?_
        refine lst_shr rfl rfl rfl (by omega) (fdiv_shr v69 32 _) ?_
        refine lst_int rfl rfl rfl (fun w => bin_xor w (u64_xor v69 (v69 >>> (min 32 64)) hv69 (shr64 _ hv69))) ?_
        refine lst_shr rfl rfl rfl (by omega) (fdiv_shr (v69 ^^^ (v69 >>> (min 32 64))) 9 _) ?_
        refine lst_assign rfl rfl ?_
        refine lst_nil ?_
        refine ex_then ?_
        refine cod_ret ?_
        exact ex_ret rfl (fun a w ha => res_one rfl rfl ha) (fun _ _ ha' => ⟨s2, _, hs2, shr64 _ (xor64 hv69 (shr64 _ hv69)), rfl, ha.back (ha'.pck (by repeat (first | exact Pck.nil _ | exact Pck.refl _ | (apply Pck.cons; focus ((repeat (first | exact Rem.here _ | apply Rem.there)); done)) | refine Pck.skip _ ?_)))⟩)
      · skip
        refine lst_shr rfl rfl rfl (by omega) (fdiv_shr v49 31 _) ?_
        refine lst_nil ?_
        refine any_next (by repeat (first | exact List.Sublist.refl _ | exact List.nil_sublist _ | refine List.Sublist.cons_cons _ ?_ | refine List.Sublist.cons _ ?_)) ?_
        refine any_one (listed' := [true, true, true, true, true, true, true, true, true, true, false, false, false, false].toArray) 4 (by kernel_rfl) rfl rfl ?_
        refine lst_load rfl rfl F.one66 ?_
        refine lst_nil ?_
        refine any_next (by repeat (first | exact List.Sublist.refl _ | exact List.nil_sublist _ | refine List.Sublist.cons_cons _ ?_ | refine List.Sublist.cons _ ?_)) ?_
        refine any_one (listed' := [true, true, true, true, true, true, true, true, true, true, true, false, false, false].toArray) 10 (by kernel_rfl) rfl rfl ?_
        refine lst_int rfl rfl rfl (fun w => bin_xor w (u64_xor v49 (v49 >>> (min 31 64)) hv49 (shr64 _ hv49))) ?_
        refine lst_nil ?_
        refine any_next (by repeat (first | exact List.Sublist.refl _ | exact List.nil_sublist _ | refine List.Sublist.cons_cons _ ?_ | refine List.Sublist.cons _ ?_)) ?_
        refine any_take (listed' := [true, true, true, true, true, true, true, true, true, true, true, true, false, false].toArray) 11 rfl rfl rfl (by kernel_rfl) (by kernel_rfl) (by kernel_rfl) (by repeat (first | exact List.Sublist.refl _ | exact List.nil_sublist _ | refine List.Sublist.cons_cons _ ?_ | refine List.Sublist.cons _ ?_)) (yld_nilCheck rfl) rfl ?_
        refine any_take (listed' := [true, true, true, true, true, true, true, true, true, true, true, true, true, false].toArray) 12 rfl rfl rfl (by kernel_rfl) (by kernel_rfl) (by kernel_rfl) (by repeat (first | exact List.Sublist.refl _ | exact List.nil_sublist _ | refine List.Sublist.cons_cons _ ?_ | refine List.Sublist.cons _ ?_)) (yld_field_z rfl F.fi68_2 F.ti66) rfl ?_
        refine any_one (listed' := [true, true, true, true, true, true, true, true, true, true, true, true, true, true].toArray) 13 (by kernel_rfl) rfl rfl ?_
        refine lst_store rfl rfl F.ti66 rfl ?_
        refine lst_nil ?_
        refine any_next (by repeat (first | exact List.Sublist.refl _ | exact List.nil_sublist _ | refine List.Sublist.cons_cons _ ?_ | refine List.Sublist.cons _ ?_)) ?_
        refine any_done rfl (by kernel_rfl) ?_
        refine ex_then ?_
        refine cod_seq ?_
        refine cod_region ?_
        obtain ⟨s2, hs2e⟩ : ∃ s2, s2 = v49 ^^^ (v49 >>> (min 31 64)) := ⟨_, rfl⟩
        have hs2 : s2 < 18446744073709551616 := by rw [hs2e]; exact xor64 hv49 (shr64 _ hv49)
        rw [← hs2e]
        obtain ⟨v69, hv69, ev69⟩ := u64_some ((s2 : Int) * 15485907386658061715)
        refine lst_move rfl rfl ?_
        refine lst_nilCheck rfl rfl ?_
        refine lst_field_z rfl rfl F.fi68_2 F.ti66 ?_
        refine lst_load rfl rfl F.one66 ?_
        refine lst_int rfl rfl rfl (fun w => bin_mul w ev69) ?_
        refine lst_assign rfl rfl ?_
        refine lst_nil ?_
        refine ex_then ?_
        refine cod_seq ?_
        refine cod_region ?_
        refine lst_move rfl rfl ?_
        refine lst_move rfl rfl ?_
        refine lst_shr rfl rfl rfl (by omega) (fdiv_shr v69 32 _) ?_
        refine lst_int rfl rfl rfl (fun w => bin_xor w (u64_xor v69 (v69 >>> (min 32 64)) hv69 (shr64 _ hv69))) ?_
        refine lst_shr rfl rfl rfl (by omega) (fdiv_shr (v69 ^^^ (v69 >>> (min 32 64))) 9 _) ?_
        refine lst_assign rfl rfl ?_
        refine lst_nil ?_
        refine ex_then ?_
        refine cod_ret ?_
        exact ex_ret rfl (fun a w ha => res_one rfl rfl ha) (fun _ _ ha' => ⟨s2, _, hs2, shr64 _ (xor64 hv69 (shr64 _ hv69)), rfl, ha.back (ha'.pck (by repeat (first | exact Pck.nil _ | exact Pck.refl _ | (apply Pck.cons; focus ((repeat (first | exact Rem.here _ | apply Rem.there)); done)) | refine Pck.skip _ ?_)))⟩)
  · skip
    obtain ⟨q, hqe⟩ : ∃ q, q = v10 := ⟨_, rfl⟩
    have hq : q < 18446744073709551616 := by rw [hqe]; exact hv10
    rw [← hqe]
    refine cod_skip ?_
    refine ex_then ?_
    refine cod_seq ?_
    refine cod_region ?_
    refine lst_move rfl rfl ?_
    refine lst_nilCheck rfl rfl ?_
    refine lst_field_z rfl rfl F.fi68_1 F.ti3 ?_
    refine lst_load rfl rfl F.one3 ?_
    refine lst_int rfl rfl rfl (fun w => bin_add w (show IntKind.i64.wrap ((tk : Int) + 1) = ((tk + 1 : Nat) : Int) from wrap_i64' _ (by omega) (by omega))) ?_
    refine lst_nilCheck rfl rfl ?_
    refine lst_field_z rfl rfl F.fi68_1 F.ti3 ?_
    refine lst_store rfl rfl F.ti3 rfl ?_
    refine lst_nil ?_
    refine ex_then ?_
    refine cod_seq ?_
    refine cod_region ?_
    refine lst_move rfl rfl ?_
    refine lst_move rfl rfl ?_
    refine lst_nilCheck rfl rfl ?_
    refine lst_field_z rfl rfl F.fi68_2 F.ti66 ?_
    refine lst_load rfl rfl F.one66 ?_
    refine lst_move rfl rfl ?_
    refine lst_int rfl rfl rfl (fun w => bin_xor w (u64_xor st q hst hq)) ?_
    obtain ⟨v49, hv49, ev49⟩ := u64_some (((st ^^^ q : Nat) : Int) * 10723151780598845931)
    refine lst_int rfl rfl rfl (fun w => bin_mul w ev49) ?_
    refine lst_nilCheck rfl rfl ?_
    refine lst_field_z rfl rfl F.fi68_2 F.ti66 ?_
    refine lst_store rfl rfl F.ti66 rfl ?_
    refine lst_nil ?_
    refine ex_then ?_
    refine cod_seq ?_
    refine any_begin [.b hb] F.follows 14 rfl [false, false, false, false, false, false, false, false, false, false, false, false, false, false] rfl ?_
    refine any_take (listed' := [true, false, false, false, false, false, false, false, false, false, false, false, false, false].toArray) 0 rfl rfl rfl (by kernel_rfl) (by kernel_rfl) (by kernel_rfl) (by repeat (first | exact List.Sublist.refl _ | exact List.nil_sublist _ | refine List.Sublist.cons_cons _ ?_ | refine List.Sublist.cons _ ?_)) (yld_move rfl) rfl ?_
    refine any_take (listed' := [true, true, false, false, false, false, false, false, false, false, false, false, false, false].toArray) 1 rfl rfl rfl (by kernel_rfl) (by kernel_rfl) (by kernel_rfl) (by repeat (first | exact List.Sublist.refl _ | exact List.nil_sublist _ | refine List.Sublist.cons_cons _ ?_ | refine List.Sublist.cons _ ?_)) (yld_move rfl) rfl ?_
    refine any_take (listed' := [true, true, true, false, false, false, false, false, false, false, false, false, false, false].toArray) 2 rfl rfl rfl (by kernel_rfl) (by kernel_rfl) (by kernel_rfl) (by repeat (first | exact List.Sublist.refl _ | exact List.nil_sublist _ | refine List.Sublist.cons_cons _ ?_ | refine List.Sublist.cons _ ?_)) (yld_nilCheck rfl) rfl ?_
    refine any_take (listed' := [true, true, true, true, false, false, false, false, false, false, false, false, false, false].toArray) 3 rfl rfl rfl (by kernel_rfl) (by kernel_rfl) (by kernel_rfl) (by repeat (first | exact List.Sublist.refl _ | exact List.nil_sublist _ | refine List.Sublist.cons_cons _ ?_ | refine List.Sublist.cons _ ?_)) (yld_field_z rfl F.fi68_2 F.ti66) rfl ?_
    refine any_take (listed' := [true, true, true, true, false, true, false, false, false, false, false, false, false, false].toArray) 5 rfl rfl rfl (by kernel_rfl) (by kernel_rfl) (by kernel_rfl) (by repeat (first | exact List.Sublist.refl _ | exact List.nil_sublist _ | refine List.Sublist.cons_cons _ ?_ | refine List.Sublist.cons _ ?_)) (yld_move rfl) rfl ?_
    refine any_take (listed' := [true, true, true, true, false, true, true, false, false, false, false, false, false, false].toArray) 6 rfl rfl rfl (by kernel_rfl) (by kernel_rfl) (by kernel_rfl) (by repeat (first | exact List.Sublist.refl _ | exact List.nil_sublist _ | refine List.Sublist.cons_cons _ ?_ | refine List.Sublist.cons _ ?_)) (yld_nilCheck rfl) rfl ?_
    refine any_take (listed' := [true, true, true, true, false, true, true, true, false, false, false, false, false, false].toArray) 7 rfl rfl rfl (by kernel_rfl) (by kernel_rfl) (by kernel_rfl) (by repeat (first | exact List.Sublist.refl _ | exact List.nil_sublist _ | refine List.Sublist.cons_cons _ ?_ | refine List.Sublist.cons _ ?_)) (yld_field_z rfl F.fi68_2 F.ti66) rfl ?_
    refine any_two (l1 := [true, true, true, true, true, true, true, true, false, false, false, false, false, false].toArray) (l2 := [true, true, true, true, false, true, true, true, true, false, false, false, false, false].toArray) 4 8 (by kernel_rfl) rfl rfl rfl rfl ?_ ?_
    · skip
      refine lst_load rfl rfl F.one66 ?_
      refine lst_nil ?_
      refine any_next (by repeat (first | exact List.Sublist.refl _ | exact List.nil_sublist _ | refine List.Sublist.cons_cons _ ?_ | refine List.Sublist.cons _ ?_)) ?_
      refine any_one (listed' := [true, true, true, true, true, true, true, true, true, false, false, false, false, false].toArray) 8 (by kernel_rfl) rfl rfl ?_
      refine lst_load rfl rfl F.one66 ?_
      refine lst_nil ?_
      refine any_next (by repeat (first | exact List.Sublist.refl _ | exact List.nil_sublist _ | refine List.Sublist.cons_cons _ ?_ | refine List.Sublist.cons _ ?_)) ?_
      refine any_one (listed' := [true, true, true, true, true, true, true, true, true, true, false, false, false, false].toArray) 9 (by kernel_rfl) rfl rfl ?_
      refine lst_shr rfl rfl rfl (by omega) (fdiv_shr v49 31 _) ?_
      refine lst_nil ?_
      refine any_next (by repeat (first | exact List.Sublist.refl _ | exact List.nil_sublist _ | refine List.Sublist.cons_cons _ ?_ | refine List.Sublist.cons _ ?_)) ?_
      refine any_one (listed' := [true, true, true, true, true, true, true, true, true, true, true, false, false, false].toArray) 10 (by kernel_rfl) rfl rfl ?_
      refine lst_int rfl rfl rfl (fun w => bin_xor w (u64_xor v49 (v49 >>> (min 31 64)) hv49 (shr64 _ hv49))) ?_
      refine lst_nil ?_
      refine any_next (by repeat (first | exact List.Sublist.refl _ | exact List.nil_sublist _ | refine List.Sublist.cons_cons _ ?_ | refine List.Sublist.cons _ ?_)) ?_
      refine any_take (listed' := [true, true, true, true, true, true, true, true, true, true, true, true, false, false].toArray) 11 rfl rfl rfl (by kernel_rfl) (by kernel_rfl) (by kernel_rfl) (by repeat (first | exact List.Sublist.refl _ | exact List.nil_sublist _ | refine List.Sublist.cons_cons _ ?_ | refine List.Sublist.cons _ ?_)) (yld_nilCheck rfl) rfl ?_
      refine any_take (listed' := [true, true, true, true, true, true, true, true, true, true, true, true, true, false].toArray) 12 rfl rfl rfl (by kernel_rfl) (by kernel_rfl) (by kernel_rfl) (by repeat (first | exact List.Sublist.refl _ | exact List.nil_sublist _ | refine List.Sublist.cons_cons _ ?_ | refine List.Sublist.cons _ ?_)) (yld_field_z rfl F.fi68_2 F.ti66) rfl ?_
      refine any_one (listed' := [true, true, true, true, true, true, true, true, true, true, true, true, true, true].toArray) 13 (by kernel_rfl) rfl rfl ?_
      refine lst_store rfl rfl F.ti66 rfl ?_
      refine lst_nil ?_
      refine any_next (by repeat (first | exact List.Sublist.refl _ | exact List.nil_sublist _ | refine List.Sublist.cons_cons _ ?_ | refine List.Sublist.cons _ ?_)) ?_
      refine any_done rfl (by kernel_rfl) ?_
      refine ex_then ?_
      refine cod_seq ?_
      refine cod_region ?_
      obtain ⟨s2, hs2e⟩ : ∃ s2, s2 = v49 ^^^ (v49 >>> (min 31 64)) := ⟨_, rfl⟩
      have hs2 : s2 < 18446744073709551616 := by rw [hs2e]; exact xor64 hv49 (shr64 _ hv49)
      rw [← hs2e]
      obtain ⟨v69, hv69, ev69⟩ := u64_some ((s2 : Int) * 15485907386658061715)
      refine lst_move rfl rfl ?_
      refine lst_nilCheck rfl rfl ?_
      refine lst_field_z rfl rfl F.fi68_2 F.ti66 ?_
      refine lst_load rfl rfl F.one66 ?_
      refine lst_int rfl rfl rfl (fun w => bin_mul w ev69) ?_
      refine lst_assign rfl rfl ?_
      refine lst_nil ?_
      refine ex_then ?_
      refine cod_seq ?_
      refine cod_region ?_
      refine lst_move rfl rfl ?_
      refine lst_move rfl rfl ?_
      refine lst_shr rfl rfl rfl (by omega) (fdiv_shr v69 32 _) ?_
      refine lst_int rfl rfl rfl (fun w => bin_xor w (u64_xor v69 (v69 >>> (min 32 64)) hv69 (shr64 _ hv69))) ?_
      refine lst_shr rfl rfl rfl (by omega) (fdiv_shr (v69 ^^^ (v69 >>> (min 32 64))) 9 _) ?_
      refine lst_assign rfl rfl ?_
      refine lst_nil ?_
      refine ex_then ?_
      refine cod_ret ?_
      exact ex_ret rfl (fun a w ha => res_one rfl rfl ha) (fun _ _ ha' => ⟨s2, _, hs2, shr64 _ (xor64 hv69 (shr64 _ hv69)), rfl, ha.back (ha'.pck (by repeat (first | exact Pck.nil _ | exact Pck.refl _ | (apply Pck.cons; focus ((repeat (first | exact Rem.here _ | apply Rem.there)); done)) | refine Pck.skip _ ?_)))⟩)
    · skip
      refine lst_load rfl rfl F.one66 ?_
      refine lst_nil ?_
      refine any_next (by repeat (first | exact List.Sublist.refl _ | exact List.nil_sublist _ | refine List.Sublist.cons_cons _ ?_ | refine List.Sublist.cons _ ?_)) ?_
      refine any_two (l1 := [true, true, true, true, true, true, true, true, true, false, false, false, false, false].toArray) (l2 := [true, true, true, true, false, true, true, true, true, true, false, false, false, false].toArray) 4 9 (by kernel_rfl) rfl rfl rfl rfl ?_ ?_
      · skip
        refine lst_load rfl rfl F.one66 ?_
        refine lst_nil ?_
        refine any_next (by repeat (first | exact List.Sublist.refl _ | exact List.nil_sublist _ | refine List.Sublist.cons_cons _ ?_ | refine List.Sublist.cons _ ?_)) ?_
        refine any_one (listed' := [true, true, true, true, true, true, true, true, true, true, false, false, false, false].toArray) 9 (by kernel_rfl) rfl rfl ?_
        refine lst_shr rfl rfl rfl (by omega) (fdiv_shr v49 31 _) ?_
        refine lst_nil ?_
        refine any_next (by repeat (first | exact List.Sublist.refl _ | exact List.nil_sublist _ | refine List.Sublist.cons_cons _ ?_ | refine List.Sublist.cons _ ?_)) ?_
        refine any_one (listed' := [true, true, true, true, true, true, true, true, true, true, true, false, false, false].toArray) 10 (by kernel_rfl) rfl rfl ?_
        refine lst_int rfl rfl rfl (fun w => bin_xor w (u64_xor v49 (v49 >>> (min 31 64)) hv49 (shr64 _ hv49))) ?_
        refine lst_nil ?_
        refine any_next (by repeat (first | exact List.Sublist.refl _ | exact List.nil_sublist _ | refine List.Sublist.cons_cons _ ?_ | refine List.Sublist.cons _ ?_)) ?_
        refine any_take (listed' := [true, true, true, true, true, true, true, true, true, true, true, true, false, false].toArray) 11 rfl rfl rfl (by kernel_rfl) (by kernel_rfl) (by kernel_rfl) (by repeat (first | exact List.Sublist.refl _ | exact List.nil_sublist _ | refine List.Sublist.cons_cons _ ?_ | refine List.Sublist.cons _ ?_)) (yld_nilCheck rfl) rfl ?_
        refine any_take (listed' := [true, true, true, true, true, true, true, true, true, true, true, true, true, false].toArray) 12 rfl rfl rfl (by kernel_rfl) (by kernel_rfl) (by kernel_rfl) (by repeat (first | exact List.Sublist.refl _ | exact List.nil_sublist _ | refine List.Sublist.cons_cons _ ?_ | refine List.Sublist.cons _ ?_)) (yld_field_z rfl F.fi68_2 F.ti66) rfl ?_
        refine any_one (listed' := [true, true, true, true, true, true, true, true, true, true, true, true, true, true].toArray) 13 (by kernel_rfl) rfl rfl ?_
        refine lst_store rfl rfl F.ti66 rfl ?_
        refine lst_nil ?_
        refine any_next (by repeat (first | exact List.Sublist.refl _ | exact List.nil_sublist _ | refine List.Sublist.cons_cons _ ?_ | refine List.Sublist.cons _ ?_)) ?_
        refine any_done rfl (by kernel_rfl) ?_
        refine ex_then ?_
        refine cod_seq ?_
        refine cod_region ?_
        obtain ⟨s2, hs2e⟩ : ∃ s2, s2 = v49 ^^^ (v49 >>> (min 31 64)) := ⟨_, rfl⟩
        have hs2 : s2 < 18446744073709551616 := by rw [hs2e]; exact xor64 hv49 (shr64 _ hv49)
        rw [← hs2e]
        obtain ⟨v69, hv69, ev69⟩ := u64_some ((s2 : Int) * 15485907386658061715)
        refine lst_move rfl rfl ?_
        refine lst_nilCheck rfl rfl ?_
        refine lst_field_z rfl rfl F.fi68_2 F.ti66 ?_
        refine lst_load rfl rfl F.one66 ?_
        refine lst_int rfl rfl rfl (fun w => bin_mul w ev69) ?_
        refine lst_assign rfl rfl ?_
        refine lst_nil ?_
        refine ex_then ?_
        refine cod_seq ?_
        refine cod_region ?_
        refine lst_move rfl rfl ?_
        refine lst_move rfl rfl ?_
        refine lst_shr rfl rfl rfl (by omega) (fdiv_shr v69 32 _) ?_
        refine lst_int rfl rfl rfl (fun w => bin_xor w (u64_xor v69 (v69 >>> (min 32 64)) hv69 (shr64 _ hv69))) ?_
        refine lst_shr rfl rfl rfl (by omega) (fdiv_shr (v69 ^^^ (v69 >>> (min 32 64))) 9 _) ?_
        refine lst_assign rfl rfl ?_
        refine lst_nil ?_
        refine ex_then ?_
        refine cod_ret ?_
        exact ex_ret rfl (fun a w ha => res_one rfl rfl ha) (fun _ _ ha' => ⟨s2, _, hs2, shr64 _ (xor64 hv69 (shr64 _ hv69)), rfl, ha.back (ha'.pck (by repeat (first | exact Pck.nil _ | exact Pck.refl _ | (apply Pck.cons; focus ((repeat (first | exact Rem.here _ | apply Rem.there)); done)) | refine Pck.skip _ ?_)))⟩)
      · skip
        refine lst_shr rfl rfl rfl (by omega) (fdiv_shr v49 31 _) ?_
        refine lst_nil ?_
        refine any_next (by repeat (first | exact List.Sublist.refl _ | exact List.nil_sublist _ | refine List.Sublist.cons_cons _ ?_ | refine List.Sublist.cons _ ?_)) ?_
        refine any_one (listed' := [true, true, true, true, true, true, true, true, true, true, false, false, false, false].toArray) 4 (by kernel_rfl) rfl rfl ?_
        refine lst_load rfl rfl F.one66 ?_
        refine lst_nil ?_
        refine any_next (by repeat (first | exact List.Sublist.refl _ | exact List.nil_sublist _ | refine List.Sublist.cons_cons _ ?_ | refine List.Sublist.cons _ ?_)) ?_
        refine any_one (listed' := [true, true, true, true, true, true, true, true, true, true, true, false, false, false].toArray) 10 (by kernel_rfl) rfl rfl ?_
        refine lst_int rfl rfl rfl (fun w => bin_xor w (u64_xor v49 (v49 >>> (min 31 64)) hv49 (shr64 _ hv49))) ?_
        refine lst_nil ?_
        refine any_next (by repeat (first | exact List.Sublist.refl _ | exact List.nil_sublist _ | refine List.Sublist.cons_cons _ ?_ | refine List.Sublist.cons _ ?_)) ?_
        refine any_take (listed' := [true, true, true, true, true, true, true, true, true, true, true, true, false, false].toArray) 11 rfl rfl rfl (by kernel_rfl) (by kernel_rfl) (by kernel_rfl) (by repeat (first | exact List.Sublist.refl _ | exact List.nil_sublist _ | refine List.Sublist.cons_cons _ ?_ | refine List.Sublist.cons _ ?_)) (yld_nilCheck rfl) rfl ?_
        refine any_take (listed' := [true, true, true, true, true, true, true, true, true, true, true, true, true, false].toArray) 12 rfl rfl rfl (by kernel_rfl) (by kernel_rfl) (by kernel_rfl) (by repeat (first | exact List.Sublist.refl _ | exact List.nil_sublist _ | refine List.Sublist.cons_cons _ ?_ | refine List.Sublist.cons _ ?_)) (yld_field_z rfl F.fi68_2 F.ti66) rfl ?_
        refine any_one (listed' := [true, true, true, true, true, true, true, true, true, true, true, true, true, true].toArray) 13 (by kernel_rfl) rfl rfl ?_
        refine lst_store rfl rfl F.ti66 rfl ?_
        refine lst_nil ?_
        refine any_next (by repeat (first | exact List.Sublist.refl _ | exact List.nil_sublist _ | refine List.Sublist.cons_cons _ ?_ | refine List.Sublist.cons _ ?_)) ?_
        refine any_done rfl (by kernel_rfl) ?_
        refine ex_then ?_
        refine cod_seq ?_
        refine cod_region ?_
        obtain ⟨s2, hs2e⟩ : ∃ s2, s2 = v49 ^^^ (v49 >>> (min 31 64)) := ⟨_, rfl⟩
        have hs2 : s2 < 18446744073709551616 := by rw [hs2e]; exact xor64 hv49 (shr64 _ hv49)
        rw [← hs2e]
        obtain ⟨v69, hv69, ev69⟩ := u64_some ((s2 : Int) * 15485907386658061715)
        refine lst_move rfl rfl ?_
        refine lst_nilCheck rfl rfl ?_
        refine lst_field_z rfl rfl F.fi68_2 F.ti66 ?_
        refine lst_load rfl rfl F.one66 ?_
        refine lst_int rfl rfl rfl (fun w => bin_mul w ev69) ?_
        refine lst_assign rfl rfl ?_
        refine lst_nil ?_
        refine ex_then ?_
        refine cod_seq ?_
        refine cod_region ?_
        refine lst_move rfl rfl ?_
        refine lst_move rfl rfl ?_
        refine lst_shr rfl rfl rfl (by omega) (fdiv_shr v69 32 _) ?_
        refine lst_int rfl rfl rfl (fun w => bin_xor w (u64_xor v69 (v69 >>> (min 32 64)) hv69 (shr64 _ hv69))) ?_
        refine lst_shr rfl rfl rfl (by omega) (fdiv_shr (v69 ^^^ (v69 >>> (min 32 64))) 9 _) ?_
        refine lst_assign rfl rfl ?_
        refine lst_nil ?_
        refine ex_then ?_
        refine cod_ret ?_
        exact ex_ret rfl (fun a w ha => res_one rfl rfl ha) (fun _ _ ha' => ⟨s2, _, hs2, shr64 _ (xor64 hv69 (shr64 _ hv69)), rfl, ha.back (ha'.pck (by repeat (first | exact Pck.nil _ | exact Pck.refl _ | (apply Pck.cons; focus ((repeat (first | exact Rem.here _ | apply Rem.there)); done)) | refine Pck.skip _ ?_)))⟩)

theorem To_c {C : Ctx} {fr : List (Nat × Value)} {T : List Res} {a : Act} {w : World} (hC : C.P = Tryd.prog) {hb tk st nc : Nat} {nA : Option Addr} {nums : List Int} (hB : C.w0.heap.size = C.B) (hN : RdL icell 1 C.w0 nA nums) (htk : tk ≤ 1000000) (hst : st < 18446744073709551616) {n : Int} (hn : n ≤ 1000000)  (ha : At C fr (.blk hb (.cells [.slice nA nums.length nc, .int .i64 (tk : Int), .int .u64 (st : Int)].toArray 68 (0, 0)) :: T) a w) : Calls C.P 25 #[.pointer (some ⟨hb, 0, none⟩), .int .i64 n] w fun e w' => ∃ st' x : Nat, st' < 18446744073709551616 ∧ x ≤ n.toNat ∧ e = .returned (.int .i64 (x : Int)) ∧ At C fr (.blk hb (.cells [.slice nA nums.length nc, .int .i64 ((tk + 1 : Nat) : Int), .int .u64 (st' : Int)].toArray 68 (0, 0)) :: T) a w' := by
  obtain ⟨P, B, w0, N0, ds⟩ := C
  obtain rfl : P = Tryd.prog := hC
  (try dsimp only at hB)
  (try dsimp only at hN)
  refine enter_in (N := 16) [(0, .pointer (some ⟨hb, 0, none⟩)), (1, .int .i64 n)] ha Tryd.func25 rfl Tryd.ntmps25 rfl rfl ?_
  refine cod_seq ?_
  refine cod_region ?_
  refine lst_assign rfl rfl ?_
  refine lst_nil ?_
  refine ex_then ?_
  refine cod_seq ?_
  refine cod_region ?_
  refine lst_move rfl rfl ?_
  refine lst_call (X := Nat × Nat) (first := []) (cap := []) (vs := [_]) (p := fun y => y.1 < 18446744073709551616 ∧ y.2 < 18446744073709551616) (val := fun y => .int .u64 (y.2 : Int)) (rs := fun y => .blk hb (.cells [.slice nA nums.length nc, .int .i64 ((tk + 1 : Nat) : Int), .int .u64 (y.1 : Int)].toArray 68 (0, 0)) :: T) rfl rfl rfl F.ent73 (fun a w ha => (stir_c (C := ⟨Tryd.prog, B, w0, _, _⟩) rfl hB hN htk hst ha).mono (fun e w' h => by obtain ⟨s', x, h1, h2, h3, h4⟩ := h; exact ⟨(s', x), ⟨h1, h2⟩, h3, h4⟩)) ?_
  rintro ⟨s1, x⟩ ⟨hs1, hx⟩
  dsimp only at hs1 hx ⊢
  refine lst_assign rfl rfl ?_
  refine lst_nil ?_
  refine ex_then ?_
  refine cod_seq ?_
  refine cod_seq ?_
  refine cod_region ?_
  refine lst_move rfl rfl ?_
  refine lst_int rfl rfl rfl bin_lss ?_
  refine lst_nil ?_
  refine ex_then ?_
  refine cod_cond_dec rfl (fun hc0 => ?_) (fun hc0 => ?_)
  · skip
    refine cod_seq ?_
    refine cod_region ?_
    refine lst_assign rfl rfl ?_
    refine lst_nil ?_
    refine ex_then ?_
    refine cod_ret ?_
    refine ex_then_ret ?_
    exact ex_ret rfl (fun a w ha => res_one rfl rfl ha) (fun _ _ ha' => ⟨s1, 0, hs1, Nat.zero_le _, rfl, ha.back (ha'.pck (by repeat (first | exact Pck.nil _ | exact Pck.refl _ | (apply Pck.cons; focus ((repeat (first | exact Rem.here _ | apply Rem.there)); done)) | refine Pck.skip _ ?_)))⟩)
  · skip
    obtain ⟨m, rfl⟩ := Int.eq_ofNat_of_zero_le (show 0 ≤ n by omega)
    refine cod_skip ?_
    refine ex_then ?_
    refine cod_seq ?_
    refine cod_region ?_
    refine lst_move rfl rfl ?_
    refine lst_move rfl rfl ?_
    refine lst_convert rfl rfl Tryd.underlying3 Tryd.underlying66 (wrap_u64 m (by omega)) ?_
    refine lst_int rfl rfl rfl (fun w => bin_add w (wrap_u64_succ (by omega))) ?_
    refine lst_int rfl rfl rfl (fun w => bin_rem w (by omega) (tmod_nat x (m + 1))) ?_
    have hmod : x % (m + 1) < m + 1 := Nat.mod_lt _ (by omega)
    refine lst_convert rfl rfl Tryd.underlying66 Tryd.underlying3 (wrap_i64' _ (by omega) (by omega)) ?_
    refine lst_assign rfl rfl ?_
    refine lst_nil ?_
    refine ex_then ?_
    refine cod_ret ?_
    exact ex_ret rfl (fun a w ha => res_one rfl rfl ha) (fun _ _ ha' => ⟨s1, x % (m + 1), hs1, by rw [Int.toNat_natCast]; omega, rfl, ha.back (ha'.pck (by repeat (first | exact Pck.nil _ | exact Pck.refl _ | (apply Pck.cons; focus ((repeat (first | exact Rem.here _ | apply Rem.there)); done)) | refine Pck.skip _ ?_)))⟩)

end Go.Proofs.YtofkhehcnfiopaaDoor.N
namespace Go.Proofs.YtofkhehcnfiopaaDoor.N
open Go Go.RowKit Go.Proofs
set_option linter.unusedSectionVars false
variable [I : Sys]
/-- A block pulled to the front. -/
class Pul (b : Nat) (o : outParam Obj) (hp : List Res) (T : outParam (List Res)) : Prop where
  perm : hp.Perm (.blk b o :: T)
instance Pul.tail (b : Nat) (o : Obj) (x : Res) (l T : List Res) [h : Pul b o l T] : Pul b o (x :: l) (x :: T) := ⟨(h.perm.cons x).trans (.swap _ _ _)⟩
instance Pul.head (b : Nat) (o : Obj) (l : List Res) : Pul b o (.blk b o :: l) l := ⟨.refl _⟩
section
variable {C : Ctx} {fr : List (Nat × Value)} {hp hp' : List Res} {a : Act} {w : World} {ops : Array Oper} {Q : Exit → Act → World → Prop} {rest : List Oper}
  {d : Nat} {ty : TypeId} {pos : String} {after : Array Edge}
theorem lst_call_pul {X : Type} (b : Nat) {o : Obj} (o' : X → Obj) {T : List Res} {f : FuncId} {vs : List Value} {args : Array Operand} {ts : Array TypeId} (p : X → Prop) (val : X → Value) [hq : Pul b o hp T] (hd : Nat.blt d C.N = true)
    (hargs : args.toList.map (ev fr) = vs.map some) (hf : Enters C.P f)
    (hc : ∀ a w, At C fr (.blk b o :: T) a w → Calls C.P f vs.toArray w fun e w' => ∃ y, p y ∧ e = .returned (val y) ∧ At C fr (.blk b (o' y) :: T) a w')
    (k : ∀ y, p y → Lst C ops Q rest ((d, val y) :: fr) (.blk b (o' y) :: T)) : Lst C ops Q (⟨some d, .call { callee := .value (.func f), args := args, argTypes := ts }, ty, pos, after, none⟩ :: rest) fr hp := by
  refine lst_call (first := []) (cap := []) (p := p) (val := val) (rs := fun y => .blk b (o' y) :: T) hd rfl hargs hf (fun a w ha => ?_) k
  simp only [List.nil_append, List.append_nil]
  exact hc a w (ha.permed hq.perm)
end
/-- The hat. -/
def hatO (nA : Option Addr) (n nc tk st : Nat) : Obj := .cells [.slice nA n nc, .int .i64 (tk : Int), .int .u64 (st : Int)].toArray 68 (0, 0)
theorem shl_i64 {k : Nat} (h : k ≤ 20) : IntKind.i64.wrap (1 * 2 ^ (min ((k : Int)).toNat IntKind.i64.bits)) = ((2 ^ k : Nat) : Int) := by
  have hm : min ((k : Int)).toNat IntKind.i64.bits = k := by rw [Int.toNat_natCast]; exact Nat.min_eq_left (by show k ≤ 64; omega)
  rw [hm, Int.one_mul]
  have hp : (2 : Nat) ^ k ≤ 2 ^ 20 := Nat.pow_le_pow_right (by omega) h
  have hc : ((2 : Int) ^ k) = ((2 ^ k : Nat) : Int) := by simp
  rw [hc]
  generalize (2 : Nat) ^ k = q at hp
  exact wrap_i64' _ (by omega) (by omega)
theorem add_pow {n k : Nat} (h : n < 2 ^ k) : n + 2 ^ k < 2 ^ (k + 1) := by rw [Nat.pow_succ]; omega
theorem pow_le20 {k : Nat} (h : k ≤ 20) : 2 ^ k ≤ 1048576 := Nat.pow_le_pow_right (n := 2) (by omega) h
end Go.Proofs.YtofkhehcnfiopaaDoor.N
namespace Go.Proofs.YtofkhehcnfiopaaDoor.N
open Go Go.RowKit Go.Proofs
set_option linter.unusedSectionVars false
variable [I : Sys]
theorem F.ent25 : Enters Tryd.prog 25 := enters_of Tryd.func25 rfl (by kernel_rfl)
theorem F.ent93 : Enters Tryd.prog 93 := enters_of Tryd.func93 rfl (by kernel_rfl)
theorem From_c {C : Ctx} {fr : List (Nat × Value)} {T : List Res} {a : Act} {w : World} (hC : C.P = Tryd.prog) {hb tk st nc : Nat} {nA : Option Addr} {nums : List Int} (hB : C.w0.heap.size = C.B) (hN : RdL icell 1 C.w0 nA nums) (htk : tk ≤ 1000000) (hst : st < 18446744073709551616) {lo hi : Nat} (hlh : lo ≤ hi) (hhi : hi ≤ 1000) (ha : At C fr (.blk hb (hatO nA nums.length nc (tk) (st)) :: T) a w) : Calls C.P 87 #[.pointer (some ⟨hb, 0, none⟩), .int .i64 (lo : Int), .int .i64 (hi : Int)] w fun e w' => ∃ st' x : Nat, st' < 18446744073709551616 ∧ lo ≤ x ∧ x ≤ hi ∧ e = .returned (.int .i64 (x : Int)) ∧ At C fr (.blk hb (hatO nA nums.length nc (tk + 1) (st')) :: T) a w' := by
  obtain ⟨P, B, w0, N0, ds⟩ := C
  obtain rfl : P = Tryd.prog := hC
  (try dsimp only at hB)
  (try dsimp only at hN)
  refine enter_in (N := 14) [(0, .pointer (some ⟨hb, 0, none⟩)), (1, .int .i64 (lo : Int)), (2, .int .i64 (hi : Int))] ha Tryd.func87 rfl Tryd.ntmps87 rfl rfl ?_
  refine cod_seq ?_
  refine cod_region ?_
  refine lst_assign rfl rfl ?_
  refine lst_nil ?_
  refine ex_then ?_
  refine cod_seq ?_
  refine cod_region ?_
  refine lst_move rfl rfl ?_
  refine lst_move rfl rfl ?_
  refine lst_move rfl rfl ?_
  refine lst_move rfl rfl ?_
  refine lst_int rfl rfl rfl (fun w => bin_sub w (wrap_i64' ((hi : Int) - (lo : Int)) (by omega) (by omega))) ?_
  refine lst_call_pul (X := Nat × Nat) (vs := [_, _]) hb (fun y => hatO nA nums.length nc (tk + 1) (y.1)) (fun y => y.1 < 18446744073709551616 ∧ y.2 ≤ ((hi : Int) - (lo : Int) : Int).toNat) (fun y => .int .i64 (y.2 : Int)) rfl rfl F.ent25 (fun a w ha => (To_c (C := ⟨Tryd.prog, B, w0, _, _⟩) rfl hB hN (tk := tk) (st := st) (n := (hi : Int) - (lo : Int)) (by omega) hst (by omega) ha).mono (fun e w' h => by obtain ⟨s', x, h1, h2, h3, h4⟩ := h; exact ⟨(s', x), ⟨h1, h2⟩, h3, h4⟩)) ?_
  rintro ⟨s1, x1⟩ ⟨hs1, hx1⟩
  dsimp only at hs1 hx1 ⊢
  refine lst_int rfl rfl rfl (fun w => bin_add w (show IntKind.i64.wrap ((lo : Int) + (x1 : Int)) = ((lo + x1 : Nat) : Int) from wrap_i64' _ (by omega) (by omega))) ?_
  refine lst_assign rfl rfl ?_
  refine lst_nil ?_
  refine ex_then ?_
  refine cod_ret ?_
  exact ex_ret rfl (fun a w ha => res_one rfl rfl ha) (fun _ _ ha' => ⟨s1, lo + x1, hs1, by omega, by omega, rfl, ha.back (ha'.pck (by repeat (first | exact Pck.nil _ | exact Pck.refl _ | (apply Pck.cons; focus ((repeat (first | exact Rem.here _ | apply Rem.there)); done)) | refine Pck.skip _ ?_)))⟩)

theorem Seldom_c {C : Ctx} {fr : List (Nat × Value)} {T : List Res} {a : Act} {w : World} (hC : C.P = Tryd.prog) {hb tk st nc : Nat} {nA : Option Addr} {nums : List Int} (hB : C.w0.heap.size = C.B) (hN : RdL icell 1 C.w0 nA nums) (htk : tk ≤ 1000000) (hst : st < 18446744073709551616) {n : Int} (hn0 : 0 ≤ n) (hn : n ≤ 1000) (ha : At C fr (.blk hb (hatO nA nums.length nc (tk) (st)) :: T) a w) : Calls C.P 93 #[.pointer (some ⟨hb, 0, none⟩), .int .i64 n] w fun e w' => ∃ (st' : Nat) (b : Bool), st' < 18446744073709551616 ∧ e = .returned (.bool b) ∧ At C fr (.blk hb (hatO nA nums.length nc (tk + 1) (st')) :: T) a w' := by
  obtain ⟨P, B, w0, N0, ds⟩ := C
  obtain rfl : P = Tryd.prog := hC
  (try dsimp only at hB)
  (try dsimp only at hN)
  refine enter_in (N := 10) [(0, .pointer (some ⟨hb, 0, none⟩)), (1, .int .i64 n)] ha Tryd.func93 rfl Tryd.ntmps93 rfl rfl ?_
  refine cod_seq ?_
  refine cod_region ?_
  refine lst_assign rfl rfl ?_
  refine lst_nil ?_
  refine ex_then ?_
  refine cod_seq ?_
  refine cod_region ?_
  refine lst_move rfl rfl ?_
  refine lst_move rfl rfl ?_
  refine lst_int rfl rfl rfl (fun w => bin_sub w (wrap_i64' (n - 1) (by omega) (by omega))) ?_
  refine lst_call_pul (X := Nat × Nat) (vs := [_, _]) hb (fun y => hatO nA nums.length nc (tk + 1) (y.1)) (fun y => y.1 < 18446744073709551616 ∧ y.2 ≤ (n - 1 : Int).toNat) (fun y => .int .i64 (y.2 : Int)) rfl rfl F.ent25 (fun a w ha => (To_c (C := ⟨Tryd.prog, B, w0, _, _⟩) rfl hB hN (tk := tk) (st := st) (n := n - 1) (by omega) hst (by omega) ha).mono (fun e w' h => by obtain ⟨s', x, h1, h2, h3, h4⟩ := h; exact ⟨(s', x), ⟨h1, h2⟩, h3, h4⟩)) ?_
  rintro ⟨s1, x1⟩ ⟨hs1, hx1⟩
  dsimp only at hs1 hx1 ⊢
  refine lst_int rfl rfl rfl bin_eql ?_
  refine lst_assign rfl rfl ?_
  refine lst_nil ?_
  refine ex_then ?_
  refine cod_ret ?_
  exact ex_ret rfl (fun a w ha => res_one rfl rfl ha) (fun _ _ ha' => ⟨s1, _, hs1, rfl, ha.back (ha'.pck (by repeat (first | exact Pck.nil _ | exact Pck.refl _ | (apply Pck.cons; focus ((repeat (first | exact Rem.here _ | apply Rem.there)); done)) | refine Pck.skip _ ?_)))⟩)

theorem FaultsOf_c {C : Ctx} {fr : List (Nat × Value)} {T : List Res} {a : Act} {w : World} (hC : C.P = Tryd.prog) {hb tk st nc : Nat} {nA : Option Addr} {nums : List Int} (hB : C.w0.heap.size = C.B) (hN : RdL icell 1 C.w0 nA nums) (htk : tk ≤ 999000) (hst : st < 18446744073709551616) {few : Nat} (hfew : few ≤ 6) (ha : At C fr (.blk hb (hatO nA nums.length nc (tk) (st)) :: T) a w) : Calls C.P 63 #[.pointer (some ⟨hb, 0, none⟩), .int .i64 (few : Int)] w fun e w' => ∃ st' x : Nat, st' < 18446744073709551616 ∧ x < 2 ^ few ∧ e = .returned (.int .i64 (x : Int)) ∧ At C fr (.blk hb (hatO nA nums.length nc (tk + few) (st')) :: T) a w' := by
  obtain ⟨P, B, w0, N0, ds⟩ := C
  obtain rfl : P = Tryd.prog := hC
  (try dsimp only at hB)
  (try dsimp only at hN)
  refine enter_in (N := 19) [(0, .pointer (some ⟨hb, 0, none⟩)), (1, .int .i64 (few : Int))] ha Tryd.func63 rfl Tryd.ntmps63 rfl rfl ?_
  refine cod_seq ?_
  refine cod_region ?_
  refine lst_assign rfl rfl ?_
  refine lst_nil ?_
  refine ex_then ?_
  refine cod_seq ?_
  refine cod_region ?_
  refine lst_assign rfl rfl ?_
  refine lst_nil ?_
  refine ex_then ?_
  refine cod_seq ?_
  refine cod_seq ?_
  refine cod_region ?_
  refine lst_assign rfl rfl ?_
  refine lst_nil ?_
  refine ex_then ?_
  refine cod_block ?_
  refine cod_loop (G := Nat × Nat × Nat) (fun g => g.1 ≤ few ∧ g.2.1 < 2 ^ g.1 ∧ g.2.2 < 18446744073709551616) (fun g => few - g.1) (fun g => [(0, .pointer (some ⟨hb, 0, none⟩)), (1, .int .i64 (few : Int)), (5, .int .i64 (g.2.1 : Int)), (6, .int .i64 (g.1 : Int))]) (fun g => .blk hb (hatO nA nums.length nc (tk + g.1) (g.2.2)) :: T) (0, 0, st) ⟨Nat.zero_le _, Nat.one_pos, hst⟩ (by repeat (first | exact Sub.nil _ | refine Sub.cons rfl ?_)) (by repeat (first | exact List.Sublist.refl _ | exact List.nil_sublist _ | refine List.Sublist.cons_cons _ ?_ | refine List.Sublist.cons _ ?_)) ?_
  rintro ⟨k, q, s0⟩ hk
  (try dsimp only at hk ⊢)
  refine cod_seq ?_
  refine cod_seq ?_
  refine cod_region ?_
  refine lst_move rfl rfl ?_
  refine lst_move rfl rfl ?_
  refine lst_int rfl rfl rfl bin_lss ?_
  refine lst_nil ?_
  refine ex_then ?_
  refine cod_cond_dec rfl (fun hc0 => ?_) (fun hc0 => ?_)
  · skip
    have hk' : k < few := by omega
    have hpw := pow_le20 (k := k) (by omega)
    refine cod_skip ?_
    refine ex_then ?_
    refine cod_seq ?_
    refine cod_block ?_
    refine cod_seq ?_
    refine cod_region ?_
    refine lst_move rfl rfl ?_
    refine lst_call_pul (X := Nat × Bool) (vs := [_, _]) hb (fun y => hatO nA nums.length nc (tk + k + 1) (y.1)) (fun y => y.1 < 18446744073709551616) (fun y => .bool y.2) rfl rfl F.ent93 (fun a w ha => (Seldom_c (C := ⟨Tryd.prog, B, w0, _, _⟩) rfl hB hN (tk := tk + k) (st := s0) (n := 3) (by omega) hk.2.2 (by omega) (by omega) ha).mono (fun e w' h => by obtain ⟨s', b, h1, h2, h3⟩ := h; exact ⟨(s', b), h1, h2, h3⟩)) ?_
    rintro ⟨s1, bl⟩ hs1
    dsimp only at hs1 ⊢
    refine lst_nil ?_
    refine ex_then ?_
    refine cod_cond_bool rfl (fun hc1 => ?_) (fun hc1 => ?_)
    · skip
      refine cod_region ?_
      refine lst_move rfl rfl ?_
      refine lst_move rfl rfl ?_
      refine lst_shl rfl rfl rfl (by omega) (shl_i64 (by omega)) ?_
      refine lst_int rfl rfl rfl (fun w => bin_add w (show IntKind.i64.wrap ((q : Int) + ((2 ^ k : Nat) : Int)) = ((q + 2 ^ k : Nat) : Int) from wrap_i64' _ (by omega) (by omega))) ?_
      refine lst_assign rfl rfl ?_
      refine lst_nil ?_
      refine ex_block_normal ?_
      refine ex_then ?_
      refine cod_region ?_
      refine lst_move rfl rfl ?_
      refine lst_int rfl rfl rfl (fun w => bin_add w (wrap_i64' _ (by omega) (by omega))) ?_
      refine lst_assign rfl rfl ?_
      refine lst_nil ?_
      refine ex_round (k + 1, q + 2 ^ k, s1) ⟨by omega, add_pow hk.2.1, hs1⟩ (by (try dsimp only); omega) (by repeat (first | exact Sub.nil _ | refine Sub.cons rfl ?_)) (by repeat (first | exact List.Sublist.refl _ | exact List.nil_sublist _ | refine List.Sublist.cons_cons _ ?_ | refine List.Sublist.cons _ ?_))
    · skip
      refine cod_skip ?_
      refine ex_block_normal ?_
      refine ex_then ?_
      refine cod_region ?_
      refine lst_move rfl rfl ?_
      refine lst_int rfl rfl rfl (fun w => bin_add w (wrap_i64' _ (by omega) (by omega))) ?_
      refine lst_assign rfl rfl ?_
      refine lst_nil ?_
      refine ex_round (k + 1, q, s1) ⟨by omega, by have h2 := hk.2.1; dsimp only; rw [Nat.pow_succ]; omega, hs1⟩ (by (try dsimp only); omega) (by repeat (first | exact Sub.nil _ | refine Sub.cons rfl ?_)) (by repeat (first | exact List.Sublist.refl _ | exact List.nil_sublist _ | refine List.Sublist.cons_cons _ ?_ | refine List.Sublist.cons _ ?_))
  · skip
    refine cod_exit ?_
    refine ex_then_exit ?_
    refine ex_then_exit ?_
    refine ex_block_exit ?_
    refine ex_then ?_
    refine cod_seq ?_
    refine cod_region ?_
    refine lst_move rfl rfl ?_
    refine lst_assign rfl rfl ?_
    refine lst_nil ?_
    refine ex_then ?_
    refine cod_ret ?_
    obtain rfl : k = few := by omega
    exact ex_ret rfl (fun a w ha => res_one rfl rfl ha) (fun _ _ ha' => ⟨s0, q, hk.2.2, hk.2.1, rfl, ha.back (ha'.pck (by repeat (first | exact Pck.nil _ | exact Pck.refl _ | (apply Pck.cons; focus ((repeat (first | exact Rem.here _ | apply Rem.there)); done)) | refine Pck.skip _ ?_)))⟩)

end Go.Proofs.YtofkhehcnfiopaaDoor.N
namespace Go.Proofs.YtofkhehcnfiopaaDoor.N
open Go Go.RowKit Go.Proofs
set_option linter.unusedSectionVars false
variable [I : Sys]
theorem nn_apart (a b : Nat) : b &&& nn a b = 0 := by
  apply Nat.eq_of_testBit_eq
  intro i
  simp [nn, Nat.testBit_and, Nat.testBit_xor]
  cases a.testBit i <;> cases b.testBit i <;> simp
theorem or64 {a b : Nat} (ha : a < 64) (hb : b < 64) : a ||| b < 64 := Nat.or_lt_two_pow (n := 6) ha hb
theorem and64 {a b : Nat} (ha : a < 64) : a &&& b < 64 := Nat.lt_of_le_of_lt Nat.and_le_left ha
theorem nn64 {a b : Nat} (ha : a < 64) : nn a b < 64 := nn_lt (n := 6) ha
theorem pow64 {k few : Nat} (hk : k ≤ ((few : Int) - 1).toNat) (hf : 1 ≤ few) (hfew : few ≤ 6) : 2 ^ k < 64 := by
  have h5 : k ≤ 5 := by omega
  exact Nat.lt_of_le_of_lt (Nat.pow_le_pow_right (n := 2) (by omega) h5) (by omega)
theorem few64 {f few : Nat} (h : f < 2 ^ few) (hfew : few ≤ 6) : f < 64 := Nat.lt_of_lt_of_le h (show 2 ^ few ≤ 2 ^ 6 from Nat.pow_le_pow_right (by omega) hfew)
end Go.Proofs.YtofkhehcnfiopaaDoor.N
