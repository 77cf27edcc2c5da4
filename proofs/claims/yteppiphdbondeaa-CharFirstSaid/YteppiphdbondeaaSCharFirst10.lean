/- Parts of the walk of the law CharFirst: T26, ChH, T27, ChJ, T28, Sx7, ChA, ChG, T29, T30, ChRow. -/
import Derived.Test.YteppiphdbondeaaSCharFirst09
import Derived.Test.YteppiphdbondeaaProg
import Derived.Test.YteppiphdbondeaaSCharFirst05
import Derived.DeepKeys3
import Derived.Test.YteppiphdbondeaaSCharFirst08
import Derived.Test.YteppiphdbondeaaSCharFirst03
namespace Go.Proofs.Yteppiphdbondeaa.N
open Go Go.RowKit Go.Proofs
set_option linter.unusedSectionVars false
variable [I : Sys]
theorem F.ent15 : Enters Try.prog 15 := enters_of Try.func15 rfl (by kernel_rfl)
theorem F.ent17 : Enters Try.prog 17 := enters_of Try.func17 rfl (by kernel_rfl)
theorem F.ent19 : Enters Try.prog 19 := enters_of Try.func19 rfl (by kernel_rfl)
theorem F.ent21 : Enters Try.prog 21 := enters_of Try.func21 rfl (by kernel_rfl)
theorem F.ent23 : Enters Try.prog 23 := enters_of Try.func23 rfl (by kernel_rfl)
theorem F.ent28 : Enters Try.prog 28 := enters_of Try.func28 rfl (by kernel_rfl)
theorem F.ent33 : Enters Try.prog 33 := enters_of Try.func33 rfl (by kernel_rfl)
theorem F.ent42 : Enters Try.prog 42 := enters_of Try.func42 rfl (by kernel_rfl)
theorem F.ent44 : Enters Try.prog 44 := enters_of Try.func44 rfl (by kernel_rfl)
theorem F.ent45 : Enters Try.prog 45 := enters_of Try.func45 rfl (by kernel_rfl)
theorem cleared_c [R : ReaC] (w : World) (hR : RdC w) : Calls Try.prog 20 #[] w fun e w' => e = .returned (.bool true) ∧ Grew w w' [] := by
 refine enter (N := 125) [] Try.func20 rfl Try.ntmps20 rfl rfl ?_
 refine cod_seq (cod_region (lst_assign rfl rfl (lst_nil (ex_then (cod_seq (cod_region (lst_fn (X := Nat × Nat) (vs := [_]) (p := fun _ => True) (val := fun g => .agg [.slice (some ⟨g.1, 0, none⟩) 2 2, .int .i64 1, .slice (some ⟨g.2, 0, none⟩) 3 3].toArray) (rs := fun g => [.blk g.2 (.cells (ints hds).toArray 3 (0, 0)), .blk g.1 (.cells (hfs.flatMap Flt.cells).toArray 49 (0, 0))]) rfl rfl F.ent42 (fun a w ha => (house_c 1 w).mono (fun e w' h => by obtain ⟨b5, b7, h1, h2⟩ := h; exact ⟨(b5, b7), trivial, h1, h2⟩)) ?_)))))))
 rintro ⟨f1, d1⟩ -
 dsimp only [List.cons_append, List.nil_append]
 refine lst_fn (X := Option Addr × Nat × (Option Addr × Nat) × (Option Addr × Nat) × (Option Addr × Nat)) (vs := [_]) (p := fun _ => True) (val := fun g => .tuple #[.slice g.1 3 g.2.1, .int .i64 1, .int .i64 0]) (rs := fun g => [.row 22 1 g.1 3 g.2.1 [.slice g.2.2.1.1 2 g.2.2.1.2, .slice g.2.2.2.1.1 2 g.2.2.2.1.2, .slice g.2.2.2.2.1 2 g.2.2.2.2.2], .row 3 1 g.2.2.2.2.1 2 g.2.2.2.2.2 (ints [0, 0]), .row 3 1 g.2.2.2.1.1 2 g.2.2.2.1.2 (ints [3, 0]), .row 3 1 g.2.2.1.1 2 g.2.2.1.2 (ints [0, 2])]) rfl rfl F.ent15 (fun a w ha => ?_) ?_
 ·refine (Fewest_c (fA := some ⟨f1, 0, none⟩) (dA := some ⟨d1, 0, none⟩) (fc := 2) (dc := 3) (fs := hfs) (days := hds) (kiln := 1) (hv (by decide)) w (blk_reads ha (cells := Flt.cells) (size := 4) (b := f1) (l := hfs) (fun _ => rfl) rfl) (blk_reads ha (cells := ncell) (size := 1) (b := d1) (l := hds) (fun _ => rfl) rfl)).mono ?_
  rintro e w' ⟨oA, oc, mr, hcase, hg⟩
  rcases hcase with ⟨h1, h2, h3⟩ | ⟨h1, _⟩
  ·rw [ex_plan] at h2
   obtain ⟨a, b, c, rfl⟩ := mr3 h2
   rw [ex_fewest] at h3
   exact ⟨(oA, oc, a, b, c), trivial, h3, hg⟩
  ·rw [ex_fewest] at h1; cases h1
 rintro ⟨A1, c1, ⟨p1, q1⟩, ⟨p2, q2⟩, ⟨p3, q3⟩⟩ -
 dsimp only [List.cons_append, List.nil_append]
 refine lst_move rfl rfl (lst_extract rfl rfl rfl (lst_extract rfl rfl rfl (lst_extract rfl rfl rfl (lst_assign rfl rfl (lst_assign rfl rfl (lst_assign rfl rfl (lst_nil (ex_then (cod_seq (cod_region (lst_fn (X := Nat × Nat) (vs := [_]) (p := fun _ => True) (val := fun g => .agg [.slice (some ⟨g.1, 0, none⟩) 2 2, .int .i64 1, .slice (some ⟨g.2, 0, none⟩) 3 3].toArray) (rs := fun g => [.blk g.2 (.cells (ints hds).toArray 3 (0, 0)), .blk g.1 (.cells (hfs.flatMap Flt.cells).toArray 49 (0, 0))]) rfl rfl F.ent42 (fun a w ha => (house_c 1 w).mono (fun e w' h => by obtain ⟨b5, b7, h1, h2⟩ := h; exact ⟨(b5, b7), trivial, h1, h2⟩)) ?_)))))))))))
 rintro ⟨f2, d2⟩ -
 dsimp only [List.cons_append, List.nil_append]
 refine lst_fn (X := Nat × Nat × Nat × Nat) (vs := []) (p := fun _ => True) (val := fun g => .slice (some ⟨g.2.2.2, 0, none⟩) 3 3) (rs := fun g => [.blk g.2.2.2 (.cells [.slice (some ⟨g.1, 0, none⟩) 2 2, .slice (some ⟨g.2.1, 0, none⟩) 2 2, .slice (some ⟨g.2.2.1, 0, none⟩) 2 2].toArray 22 (0, 0)), .blk g.2.2.1 (.cells [.int .i64 0, .int .i64 0].toArray 3 (0, 0)), .blk g.2.1 (.cells [.int .i64 3, .int .i64 0].toArray 3 (0, 0)), .blk g.1 (.cells [.int .i64 0, .int .i64 2].toArray 3 (0, 0))]) rfl rfl F.ent44 (fun a w ha => (jobs_c w).mono (fun e w' h => by obtain ⟨b1, b2, b3, b4, h1, h2⟩ := h; exact ⟨(b1, b2, b3, b4), trivial, h1, h2⟩)) ?_
 rintro ⟨j1, j2, j3, j4⟩ -
 dsimp only [List.cons_append, List.nil_append]
 refine lst_fn (X := Option Addr × Nat × (Option Addr × Nat) × (Option Addr × Nat) × (Option Addr × Nat) × (Option Addr × Nat)) (vs := [_, _]) (p := fun _ => True) (val := fun g => .tuple #[.slice g.1 4 g.2.1, .int .i64 1, .int .i64 0]) (rs := fun g => [.row 22 1 g.1 4 g.2.1 [.slice g.2.2.1.1 2 g.2.2.1.2, .slice g.2.2.2.1.1 2 g.2.2.2.1.2, .slice g.2.2.2.2.1.1 2 g.2.2.2.2.1.2, .slice g.2.2.2.2.2.1 2 g.2.2.2.2.2.2], .row 3 1 g.2.2.2.2.2.1 2 g.2.2.2.2.2.2 (ints [0, 0]), .row 3 1 g.2.2.2.2.1.1 2 g.2.2.2.2.1.2 (ints [3, 0]), .row 3 1 g.2.2.2.1.1 2 g.2.2.2.1.2 (ints [0, 2]), .row 3 1 g.2.2.1.1 2 g.2.2.1.2 (ints [3, 1])]) rfl rfl F.ent17 (fun a w ha => ?_) ?_
 ·refine (Course_c (fA := some ⟨f2, 0, none⟩) (dA := some ⟨d2, 0, none⟩) (fc := 2) (dc := 3) (fs := hfs) (days := hds) (kiln := 1) (pA := some ⟨j4, 0, none⟩) (pc := 3) (ms := [(some ⟨j1, 0, none⟩, 2, [0, 2]), (some ⟨j2, 0, none⟩, 2, [3, 0]), (some ⟨j3, 0, none⟩, 2, [0, 0])]) (hv (by decide)) (by show 3 < 1000000; decide) (by intro x hx; simp only [List.mem_cons, List.not_mem_nil, or_false] at hx; rcases hx with rfl | rfl | rfl <;> (dsimp only; decide)) w (blk_reads ha (cells := Flt.cells) (size := 4) (b := f2) (l := hfs) (fun _ => rfl) rfl) (blk_reads ha (cells := ncell) (size := 1) (b := d2) (l := hds) (fun _ => rfl) rfl) ⟨blk_reads ha (cells := fun m => [zmcell m]) (size := 1) (b := j4) (l := [(some ⟨j1, 0, none⟩, 2, [0, 2]), (some ⟨j2, 0, none⟩, 2, [3, 0]), (some ⟨j3, 0, none⟩, 2, [0, 0])]) (fun _ => rfl) rfl, fun m hm => by
   simp only [List.mem_cons, List.not_mem_nil, or_false] at hm
   rcases hm with rfl | rfl | rfl
   ·exact blk_reads ha (cells := zcell) (size := 1) (b := j1) (l := [0, 2]) (fun _ => rfl) rfl
   ·exact blk_reads ha (cells := zcell) (size := 1) (b := j2) (l := [3, 0]) (fun _ => rfl) rfl
   ·exact blk_reads ha (cells := zcell) (size := 1) (b := j3) (l := [0, 0]) (fun _ => rfl) rfl⟩).mono ?_
  rintro e w' ⟨oA, oc, mr, h2, h3, hg⟩
  rw [show workE hfs 1 hds (List.map (fun x => x.2.2) ([(some ⟨j1, 0, none⟩, 2, [0, 2]), (some ⟨j2, 0, none⟩, 2, [3, 0]), (some ⟨j3, 0, none⟩, 2, [0, 0])] : List MetaZ)) = (0, [[3, 1], [0, 2], [3, 0], [0, 0]], 1) from ex_work] at h2 h3
  obtain ⟨a, b, c, d, rfl⟩ := mr4 h2
  exact ⟨(oA, oc, a, b, c, d), trivial, h3, hg⟩
 rintro ⟨A2, c2, ⟨r1, s1⟩, ⟨r2, s2⟩, ⟨r3, s3⟩, ⟨r4, s4⟩⟩ -
 dsimp only [List.cons_append, List.nil_append]
 refine lst_move rfl rfl (lst_extract rfl rfl rfl (lst_extract rfl rfl rfl (lst_extract rfl rfl rfl (lst_assign rfl rfl (lst_assign rfl rfl (lst_assign rfl rfl (lst_nil (ex_then (cod_seq (cod_region (lst_fn (X := Nat × Nat) (vs := [_]) (p := fun _ => True) (val := fun g => .agg [.slice (some ⟨g.1, 0, none⟩) 2 2, .int .i64 0, .slice (some ⟨g.2, 0, none⟩) 3 3].toArray) (rs := fun g => [.blk g.2 (.cells (ints hds).toArray 3 (0, 0)), .blk g.1 (.cells (hfs.flatMap Flt.cells).toArray 49 (0, 0))]) rfl rfl F.ent42 (fun a w ha => (house_c 0 w).mono (fun e w' h => by obtain ⟨b5, b7, h1, h2⟩ := h; exact ⟨(b5, b7), trivial, h1, h2⟩)) ?_)))))))))))
 rintro ⟨f3, d3⟩ -
 dsimp only [List.cons_append, List.nil_append]
 refine lst_fn0 (v := .tuple #[.int .i64 2, .int .i64 0]) (vs := [_]) rfl rfl F.ent23 (fun a w ha => (Fails_c (fA := some ⟨f3, 0, none⟩) (dA := some ⟨d3, 0, none⟩) (fc := 2) (dc := 3) (fs := hfs) (days := hds) (kiln := 0) (hv (by decide)) (by decide) w (hR.later ha.below) (fun _ => ⟨f3, 0, none, _, _, rfl, ha.mem_blk (InB.mem (b := f3)), by decide⟩) (blk_reads ha (cells := Flt.cells) (size := 4) (b := f3) (l := hfs) (fun _ => rfl) rfl) (blk_reads ha (cells := ncell) (size := 1) (b := d3) (l := hds) (fun _ => rfl) rfl)).mono (fun e w' h => ⟨ex_fails (P := fun d => e = .returned (.tuple #[.int .i64 (d : Int), .int .i64 0])) h.1, h.2⟩)) ?_
 refine lst_move rfl rfl (lst_extract rfl rfl rfl (lst_extract rfl rfl rfl (lst_assign rfl rfl (lst_assign rfl rfl (lst_nil (ex_then (cod_seq (cod_region (lst_fn (X := Nat × Nat) (vs := []) (p := fun _ => True) (val := fun g => .agg [.slice (some ⟨g.1, 0, none⟩) 2 2, .int .i64 1, .slice (some ⟨g.2, 0, none⟩) 2 2].toArray) (rs := fun g => [.blk g.2 (.cells (ints tds).toArray 3 (0, 0)), .blk g.1 (.cells (tfs.flatMap Flt.cells).toArray 49 (0, 0))]) rfl rfl F.ent45 (fun a w ha => (twins_c w).mono (fun e w' h => by obtain ⟨b5, b7, h1, h2⟩ := h; exact ⟨(b5, b7), trivial, h1, h2⟩)) ?_)))))))))
 rintro ⟨f4, d4⟩ -
 dsimp only [List.cons_append, List.nil_append]
 refine lst_fn (X := Option Addr × Nat × (Option Addr × Nat) × (Option Addr × Nat)) (vs := [_]) (p := fun _ => True) (val := fun g => .tuple #[.slice g.1 2 g.2.1, .int .i64 2, .int .i64 0]) (rs := fun g => [.row 22 1 g.1 2 g.2.1 [.slice g.2.2.1.1 2 g.2.2.1.2, .slice g.2.2.2.1 2 g.2.2.2.2], .row 3 1 g.2.2.2.1 2 g.2.2.2.2 (ints [3, 0]), .row 3 1 g.2.2.1.1 2 g.2.2.1.2 (ints [0, 3])]) rfl rfl F.ent33 (fun a w ha => ?_) ?_
 ·refine (Again_c (fA := some ⟨f4, 0, none⟩) (dA := some ⟨d4, 0, none⟩) (fc := 2) (dc := 2) (fs := tfs) (days := tds) (kiln := 1) tv1 w (blk_reads ha (cells := Flt.cells) (size := 4) (b := f4) (l := tfs) (fun _ => rfl) rfl) (blk_reads ha (cells := ncell) (size := 1) (b := d4) (l := tds) (fun _ => rfl) rfl)).mono ?_
  rintro e w' ⟨oA, oc, mr, hcase, hg⟩
  rcases hcase with ⟨h1, h2, h3⟩ | ⟨h1, _⟩
  ·rw [ex_aplan] at h2
   obtain ⟨a, b, rfl⟩ := mr2 h2
   rw [ex_again] at h3
   exact ⟨(oA, oc, a, b), trivial, h3, hg⟩
  ·rw [ex_again] at h1; cases h1
 rintro ⟨A4, c4, ⟨t1, u1⟩, ⟨t2, u2⟩⟩ -
 dsimp only [List.cons_append, List.nil_append]
 refine lst_move rfl rfl (lst_extract rfl rfl rfl (lst_extract rfl rfl rfl (lst_extract rfl rfl rfl (lst_assign rfl rfl (lst_assign rfl rfl (lst_assign rfl rfl (lst_nil (ex_then (cod_seq (cod_region (lst_fn (X := Nat × Nat) (vs := [_]) (p := fun _ => True) (val := fun g => .agg [.slice (some ⟨g.1, 0, none⟩) 2 2, .int .i64 0, .slice (some ⟨g.2, 0, none⟩) 3 3].toArray) (rs := fun g => [.blk g.2 (.cells (ints hds).toArray 3 (0, 0)), .blk g.1 (.cells (hfs.flatMap Flt.cells).toArray 49 (0, 0))]) rfl rfl F.ent42 (fun a w ha => (house_c 0 w).mono (fun e w' h => by obtain ⟨b5, b7, h1, h2⟩ := h; exact ⟨(b5, b7), trivial, h1, h2⟩)) ?_)))))))))))
 rintro ⟨f5, d5⟩ -
 dsimp only [List.cons_append, List.nil_append]
 refine lst_struct (vs := [(0, _), (2, _)]) (l' := [_, _, _, _]) rfl rfl F.ti49 F.pl49 (.cons rfl rfl (.cons rfl rfl (.nil _))) rfl ?_
 refine lst_litN (vs := [(0, .agg (Flt.cells ⟨2, 0, 2, false⟩).toArray)]) (ofs.flatMap Flt.cells) rfl rfl Try.underlying25 F.ti49 rfl rfl rfl (Lit.agg (l1 := Flt.cells ⟨2, 0, 2, false⟩) (l := []) rfl rfl) ?_
 intro o5
 refine lst_fn0 (v := .tuple #[.int .i64 0, .int .i64 0, .int .i64 0]) (vs := [_, _]) rfl rfl F.ent28 (fun a w ha => (Buy_c (fA := some ⟨f5, 0, none⟩) (dA := some ⟨d5, 0, none⟩) (fc := 2) (dc := 3) (fs := hfs) (days := hds) (kiln := 0) (oA := some ⟨o5, 0, none⟩) (oc := 1) (os := ofs) (hv (by decide)) (by decide) (by unfold FltOk; decide) (by decide) (by decide) w (blk_reads ha (cells := Flt.cells) (size := 4) (b := f5) (l := hfs) (fun _ => rfl) rfl) (blk_reads ha (cells := ncell) (size := 1) (b := d5) (l := hds) (fun _ => rfl) rfl) (blk_reads ha (cells := Flt.cells) (size := 4) (b := o5) (l := ofs) (fun _ => rfl) rfl)).mono (fun e w' h => ⟨h.1.trans (by rw [show ofs.length = 1 from rfl, ex_buy]; rfl), h.2⟩)) ?_
 refine lst_move rfl rfl (lst_extract rfl rfl rfl (lst_extract rfl rfl rfl (lst_extract rfl rfl rfl (lst_assign rfl rfl (lst_assign rfl rfl (lst_assign rfl rfl (lst_nil (ex_then (cod_seq (cod_region (lst_fn (X := Nat × Nat) (vs := [_]) (p := fun _ => True) (val := fun g => .agg [.slice (some ⟨g.1, 0, none⟩) 2 2, .int .i64 1, .slice (some ⟨g.2, 0, none⟩) 3 3].toArray) (rs := fun g => [.blk g.2 (.cells (ints hds).toArray 3 (0, 0)), .blk g.1 (.cells (hfs.flatMap Flt.cells).toArray 49 (0, 0))]) rfl rfl F.ent42 (fun a w ha => (house_c 1 w).mono (fun e w' h => by obtain ⟨b5, b7, h1, h2⟩ := h; exact ⟨(b5, b7), trivial, h1, h2⟩)) ?_)))))))))))
 rintro ⟨f6, d6⟩ -
 dsimp only [List.cons_append, List.nil_append]
 refine lst_fn0 (v := .tuple #[.int .i64 1, .int .i64 0]) (vs := [_, _, _]) rfl rfl F.ent19 (fun a w ha => (Verdict_c (fA := some ⟨f6, 0, none⟩) (dA := some ⟨d6, 0, none⟩) (fc := 2) (dc := 3) (fs := hfs) (days := hds) (kiln := 1) (f := 0) (day := 1) (hv (by decide)) (by decide) (by decide) w (blk_reads ha (cells := Flt.cells) (size := 4) (b := f6) (l := hfs) (fun _ => rfl) rfl) (blk_reads ha (cells := ncell) (size := 1) (b := d6) (l := hds) (fun _ => rfl) rfl)).mono (fun e w' h => ⟨h.1.trans (by rw [ex_verd]; rfl), h.2⟩)) ?_
 refine lst_move rfl rfl (lst_extract rfl rfl rfl (lst_extract rfl rfl rfl (lst_assign rfl rfl (lst_assign rfl rfl (lst_nil (ex_then (cod_seq (cod_region (lst_move rfl rfl (lst_int rfl rfl rfl bin_eql ?_))))))))))
 refine lst_move rfl rfl (lst_on rfl rfl (lst_move rfl rfl (lst_on rfl rfl (lst_int rfl rfl rfl bin_eql ?_))))
 refine lst_pick_true rfl rfl rfl (lst_move rfl rfl (lst_on rfl rfl (lst_move rfl rfl (lst_on rfl rfl (lst_int rfl rfl rfl bin_eql ?_)))))
 refine lst_pick_true rfl rfl rfl (lst_move rfl rfl (lst_on rfl rfl (lst_move rfl rfl (lst_on rfl rfl (lst_int rfl rfl rfl bin_eql ?_)))))
 refine lst_pick_true rfl rfl rfl (lst_move rfl rfl (lst_on rfl rfl (lst_move rfl rfl (lst_on rfl rfl (lst_int rfl rfl rfl bin_eql ?_)))))
 refine lst_pick_true rfl rfl rfl (lst_move rfl rfl (lst_on rfl rfl (lst_move rfl rfl (lst_on rfl rfl (lst_int rfl rfl rfl bin_eql ?_)))))
 refine lst_pick_true rfl rfl rfl (lst_move rfl rfl (lst_on rfl rfl (lst_move rfl rfl (lst_on rfl rfl (lst_int rfl rfl rfl bin_eql ?_)))))
 refine lst_pick_true rfl rfl rfl (lst_move rfl rfl (lst_on rfl rfl (lst_move rfl rfl (lst_on rfl rfl (lst_int rfl rfl rfl bin_eql ?_)))))
 refine lst_pick_true rfl rfl rfl (lst_move rfl rfl (lst_on rfl rfl (lst_move rfl rfl (lst_on rfl rfl (lst_int rfl rfl rfl bin_eql ?_)))))
 refine lst_pick_true rfl rfl rfl (lst_move rfl rfl (lst_on rfl rfl (lst_move rfl rfl (lst_on rfl rfl (lst_int rfl rfl rfl bin_eql ?_)))))
 refine lst_pick_true rfl rfl rfl (lst_move rfl rfl (lst_on rfl rfl (lst_move rfl rfl (lst_on rfl rfl (lst_int rfl rfl rfl bin_eql ?_)))))
 refine lst_pick_true rfl rfl rfl (lst_move rfl rfl (lst_on rfl rfl (lst_move rfl rfl (lst_on rfl rfl (lst_int rfl rfl rfl bin_eql ?_)))))
 refine lst_pick_true rfl rfl rfl (lst_move rfl rfl (lst_on rfl rfl (lst_move rfl rfl (lst_on rfl rfl (lst_int rfl rfl rfl bin_eql ?_)))))
 refine lst_pick_true rfl rfl rfl (lst_move rfl rfl (lst_on rfl rfl (lst_move rfl rfl (lst_on rfl rfl (lst_fn (X := Nat × Nat × Nat × Nat) (vs := []) (p := fun _ => True) (val := fun g => .slice (some ⟨g.2.2.2, 0, none⟩) 3 3) (rs := fun g => [.blk g.2.2.2 (.cells [.slice (some ⟨g.1, 0, none⟩) 2 2, .slice (some ⟨g.2.1, 0, none⟩) 2 2, .slice (some ⟨g.2.2.1, 0, none⟩) 2 2].toArray 22 (0, 0)), .blk g.2.2.1 (.cells [.int .i64 0, .int .i64 0].toArray 3 (0, 0)), .blk g.2.1 (.cells [.int .i64 3, .int .i64 0].toArray 3 (0, 0)), .blk g.1 (.cells [.int .i64 0, .int .i64 2].toArray 3 (0, 0))]) rfl rfl F.ent44 (fun a w ha => (jobs_c w).mono (fun e w' h => by obtain ⟨b1, b2, b3, b4, h1, h2⟩ := h; exact ⟨(b1, b2, b3, b4), trivial, h1, h2⟩)) ?_)))))
 rintro ⟨j5, j6, j7, j8⟩ -
 dsimp only [List.cons_append, List.nil_append]
 refine lst_on rfl rfl ?_
 refine lst_fn0 (v := .bool true) (vs := [_, _]) rfl rfl F.ent21 (fun a w ha => (EqLists_c (A := A1) (B := some ⟨j8, 0, none⟩) (ca := c1) (cb := 3) (l := [(p1, q1, [0, 2]), (p2, q2, [3, 0]), (p3, q3, [0, 0])]) (m := [(some ⟨j5, 0, none⟩, 2, [0, 2]), (some ⟨j6, 0, none⟩, 2, [3, 0]), (some ⟨j7, 0, none⟩, 2, [0, 0])]) (by show 3 < 1000000; decide) (by show 3 < 1000000; decide) (by intro x hx; simp only [List.mem_cons, List.not_mem_nil, or_false] at hx; rcases hx with rfl | rfl | rfl <;> (dsimp only; decide)) (by intro x hx; simp only [List.mem_cons, List.not_mem_nil, or_false] at hx; rcases hx with rfl | rfl | rfl <;> (dsimp only; decide)) w ⟨row_reads ha (cells := fun m => [zmcell m]) (size := 1) (e := 22) (c := c1) (n := 3) (l := [(p1, q1, [0, 2]), (p2, q2, [3, 0]), (p3, q3, [0, 0])]) (fun _ => rfl) (InR.mem (A := A1)) rfl, fun m hm => by
   simp only [List.mem_cons, List.not_mem_nil, or_false] at hm
   rcases hm with rfl | rfl | rfl
   ·exact row_reads ha (cells := zcell) (size := 1) (e := 3) (c := q1) (n := 2) (l := [0, 2]) (fun _ => rfl) (InR.mem (A := p1)) rfl
   ·exact row_reads ha (cells := zcell) (size := 1) (e := 3) (c := q2) (n := 2) (l := [3, 0]) (fun _ => rfl) (InR.mem (A := p2)) rfl
   ·exact row_reads ha (cells := zcell) (size := 1) (e := 3) (c := q3) (n := 2) (l := [0, 0]) (fun _ => rfl) (InR.mem (A := p3)) rfl⟩ ⟨blk_reads ha (cells := fun m => [zmcell m]) (size := 1) (b := j8) (l := [(some ⟨j5, 0, none⟩, 2, [0, 2]), (some ⟨j6, 0, none⟩, 2, [3, 0]), (some ⟨j7, 0, none⟩, 2, [0, 0])]) (fun _ => rfl) rfl, fun m hm => by
   simp only [List.mem_cons, List.not_mem_nil, or_false] at hm
   rcases hm with rfl | rfl | rfl
   ·exact blk_reads ha (cells := zcell) (size := 1) (b := j5) (l := [0, 2]) (fun _ => rfl) rfl
   ·exact blk_reads ha (cells := zcell) (size := 1) (b := j6) (l := [3, 0]) (fun _ => rfl) rfl
   ·exact blk_reads ha (cells := zcell) (size := 1) (b := j7) (l := [0, 0]) (fun _ => rfl) rfl⟩).mono (fun e w' h => ⟨h.1.trans (by rfl), h.2⟩)) ?_
 refine lst_pick_true rfl rfl rfl (lst_move rfl rfl (lst_on rfl rfl (lst_move rfl rfl (lst_on rfl rfl (lst_lit (vs := [(0, _), (1, _)]) rfl rfl Try.underlying22 F.ti3 rfl rfl rfl ?_)))))
 intro b111
 refine lst_on rfl rfl (lst_lit (vs := [(0, _), (1, _)]) rfl rfl Try.underlying22 F.ti3 rfl rfl rfl ?_)
 intro b112
 refine lst_on rfl rfl (lst_lit (vs := [(0, _), (1, _)]) rfl rfl Try.underlying22 F.ti3 rfl rfl rfl ?_)
 intro b113
 refine lst_on rfl rfl (lst_lit (vs := [(0, _), (1, _)]) rfl rfl Try.underlying22 F.ti3 rfl rfl rfl ?_)
 intro b114
 refine lst_on rfl rfl (lst_lit (vs := [(0, _), (1, _), (2, _), (3, _)]) rfl rfl Try.underlying29 F.ti22 rfl rfl rfl ?_)
 intro b115
 refine lst_on rfl rfl ?_
 refine lst_fn0 (v := .bool true) (vs := [_, _]) rfl rfl F.ent21 (fun a w ha => (EqLists_c (A := A2) (B := some ⟨b115, 0, none⟩) (ca := c2) (cb := 4) (l := [(r1, s1, [3, 1]), (r2, s2, [0, 2]), (r3, s3, [3, 0]), (r4, s4, [0, 0])]) (m := [(some ⟨b111, 0, none⟩, 2, [3, 1]), (some ⟨b112, 0, none⟩, 2, [0, 2]), (some ⟨b113, 0, none⟩, 2, [3, 0]), (some ⟨b114, 0, none⟩, 2, [0, 0])]) (by show 4 < 1000000; decide) (by show 4 < 1000000; decide) (by intro x hx; simp only [List.mem_cons, List.not_mem_nil, or_false] at hx; rcases hx with rfl | rfl | rfl | rfl <;> (dsimp only; decide)) (by intro x hx; simp only [List.mem_cons, List.not_mem_nil, or_false] at hx; rcases hx with rfl | rfl | rfl | rfl <;> (dsimp only; decide)) w ⟨row_reads ha (cells := fun m => [zmcell m]) (size := 1) (e := 22) (c := c2) (n := 4) (l := [(r1, s1, [3, 1]), (r2, s2, [0, 2]), (r3, s3, [3, 0]), (r4, s4, [0, 0])]) (fun _ => rfl) (InR.mem (A := A2)) rfl, fun m hm => by
   simp only [List.mem_cons, List.not_mem_nil, or_false] at hm
   rcases hm with rfl | rfl | rfl | rfl
   ·exact row_reads ha (cells := zcell) (size := 1) (e := 3) (c := s1) (n := 2) (l := [3, 1]) (fun _ => rfl) (InR.mem (A := r1)) rfl
   ·exact row_reads ha (cells := zcell) (size := 1) (e := 3) (c := s2) (n := 2) (l := [0, 2]) (fun _ => rfl) (InR.mem (A := r2)) rfl
   ·exact row_reads ha (cells := zcell) (size := 1) (e := 3) (c := s3) (n := 2) (l := [3, 0]) (fun _ => rfl) (InR.mem (A := r3)) rfl
   ·exact row_reads ha (cells := zcell) (size := 1) (e := 3) (c := s4) (n := 2) (l := [0, 0]) (fun _ => rfl) (InR.mem (A := r4)) rfl⟩ ⟨blk_reads ha (cells := fun m => [zmcell m]) (size := 1) (b := b115) (l := [(some ⟨b111, 0, none⟩, 2, [3, 1]), (some ⟨b112, 0, none⟩, 2, [0, 2]), (some ⟨b113, 0, none⟩, 2, [3, 0]), (some ⟨b114, 0, none⟩, 2, [0, 0])]) (fun _ => rfl) rfl, fun m hm => by
   simp only [List.mem_cons, List.not_mem_nil, or_false] at hm
   rcases hm with rfl | rfl | rfl | rfl
   ·exact blk_reads ha (cells := zcell) (size := 1) (b := b111) (l := [3, 1]) (fun _ => rfl) rfl
   ·exact blk_reads ha (cells := zcell) (size := 1) (b := b112) (l := [0, 2]) (fun _ => rfl) rfl
   ·exact blk_reads ha (cells := zcell) (size := 1) (b := b113) (l := [3, 0]) (fun _ => rfl) rfl
   ·exact blk_reads ha (cells := zcell) (size := 1) (b := b114) (l := [0, 0]) (fun _ => rfl) rfl⟩).mono (fun e w' h => ⟨h.1.trans (by rfl), h.2⟩)) ?_
 refine lst_pick_true rfl rfl rfl (lst_move rfl rfl (lst_on rfl rfl (lst_move rfl rfl (lst_on rfl rfl (lst_lit (vs := [(0, _), (1, _)]) rfl rfl Try.underlying22 F.ti3 rfl rfl rfl ?_)))))
 intro b120
 refine lst_on rfl rfl (lst_lit (vs := [(0, _), (1, _)]) rfl rfl Try.underlying22 F.ti3 rfl rfl rfl ?_)
 intro b121
 refine lst_on rfl rfl (lst_lit (vs := [(0, _), (1, _)]) rfl rfl Try.underlying29 F.ti22 rfl rfl rfl ?_)
 intro b122
 refine lst_on rfl rfl ?_
 refine lst_fn0 (v := .bool true) (vs := [_, _]) rfl rfl F.ent21 (fun a w ha => (EqLists_c (A := A4) (B := some ⟨b122, 0, none⟩) (ca := c4) (cb := 2) (l := [(t1, u1, [0, 3]), (t2, u2, [3, 0])]) (m := [(some ⟨b120, 0, none⟩, 2, [0, 3]), (some ⟨b121, 0, none⟩, 2, [3, 0])]) (by show 2 < 1000000; decide) (by show 2 < 1000000; decide) (by intro x hx; simp only [List.mem_cons, List.not_mem_nil, or_false] at hx; rcases hx with rfl | rfl <;> (dsimp only; decide)) (by intro x hx; simp only [List.mem_cons, List.not_mem_nil, or_false] at hx; rcases hx with rfl | rfl <;> (dsimp only; decide)) w ⟨row_reads ha (cells := fun m => [zmcell m]) (size := 1) (e := 22) (c := c4) (n := 2) (l := [(t1, u1, [0, 3]), (t2, u2, [3, 0])]) (fun _ => rfl) (InR.mem (A := A4)) rfl, fun m hm => by
   simp only [List.mem_cons, List.not_mem_nil, or_false] at hm
   rcases hm with rfl | rfl
   ·exact row_reads ha (cells := zcell) (size := 1) (e := 3) (c := u1) (n := 2) (l := [0, 3]) (fun _ => rfl) (InR.mem (A := t1)) rfl
   ·exact row_reads ha (cells := zcell) (size := 1) (e := 3) (c := u2) (n := 2) (l := [3, 0]) (fun _ => rfl) (InR.mem (A := t2)) rfl⟩ ⟨blk_reads ha (cells := fun m => [zmcell m]) (size := 1) (b := b122) (l := [(some ⟨b120, 0, none⟩, 2, [0, 3]), (some ⟨b121, 0, none⟩, 2, [3, 0])]) (fun _ => rfl) rfl, fun m hm => by
   simp only [List.mem_cons, List.not_mem_nil, or_false] at hm
   rcases hm with rfl | rfl
   ·exact blk_reads ha (cells := zcell) (size := 1) (b := b120) (l := [0, 3]) (fun _ => rfl) rfl
   ·exact blk_reads ha (cells := zcell) (size := 1) (b := b121) (l := [3, 0]) (fun _ => rfl) rfl⟩).mono (fun e w' h => ⟨h.1.trans (by rfl), h.2⟩)) ?_
 refine lst_pick_true rfl rfl rfl (lst_assign rfl rfl (lst_nil (ex_then (cod_ret ?_))))
 exact ex_ret rfl (fun a w ha => res_one rfl rfl ha) (fun a w ha => ⟨rfl, ha.grown nsl⟩)

theorem u64_some (z : Int) : ∃ m : Nat, m < 18446744073709551616 ∧ IntKind.u64.wrap z = (m : Int) := by
 refine ⟨(IntKind.u64.wrap z).toNat, ?_, ?_⟩
 ·simp [IntKind.wrap, IntKind.signed, IntKind.bits]
  omega
 ·simp [IntKind.wrap, IntKind.signed, IntKind.bits]
  omega
theorem xor64 {a b : Nat} (ha : a < 18446744073709551616) (hb : b < 18446744073709551616) : a ^^^ b < 18446744073709551616 := Nat.xor_lt_two_pow (n := 64) ha hb
theorem shr64 {a : Nat} (k : Nat) (ha : a < 18446744073709551616) : a >>> k < 18446744073709551616 := Nat.lt_of_le_of_lt (by rw [Nat.shiftRight_eq_div_pow]; exact Nat.div_le_self _ _) ha
theorem wrap_u64_succ {m : Nat} (h : m < 18446744073709551615) : IntKind.u64.wrap ((m : Int) + 1) = ((m + 1 : Nat) : Int) := by
 have := wrap_u64 (m + 1) om
 simpa using this
theorem tmod_nat (x m : Nat) : (x : Int).tmod ((m : Nat) : Int) = ((x % m : Nat) : Int) := (Int.ofNat_tmod x m).symm
class Pul (b : Nat) (o : outParam Obj) (hp : List Res) (T : outParam (List Res)) : Prop where
 perm : hp.Perm (.blk b o :: T)
instance Pul.tail (b : Nat) (o : Obj) (x : Res) (l T : List Res) [h : Pul b o l T] : Pul b o (x :: l) (x :: T) := ⟨(h.perm.cons x).trans (.swap _ _ _)⟩
instance Pul.head (b : Nat) (o : Obj) (l : List Res) : Pul b o (.blk b o :: l) l := ⟨.refl _⟩
section
variable {C : Ctx} {fr : List (Nat × Value)} {hp hp' : List Res} {a : Act} {w : World} {ops : Array Oper} {Q : Exit -> Act -> World -> Prop} {rest : List Oper}
 {d : Nat} {ty : TypeId} {pos : String} {after : Array Edge}
theorem lst_call_pul {X : Type} (b : Nat) {o : Obj} (o' : X -> Obj) {T : List Res} {f : FuncId} {vs : List Value} {args : Array Operand} {ts : Array TypeId} (p : X -> Prop) (val : X -> Value) [hq : Pul b o hp T] (hd : Nat.blt d C.N = true)
  (hargs : args.toList.map (ev fr) = vs.map some) (hf : Enters C.P f)
  (hc : ∀ a w, At C fr (.blk b o :: T) a w -> Calls C.P f vs.toArray w fun e w' => ∃ y, p y ∧ e = .returned (val y) ∧ At C fr (.blk b (o' y) :: T) a w')
  (k : ∀ y, p y -> Lst C ops Q rest ((d, val y) :: fr) (.blk b (o' y) :: T)) : Lst C ops Q (⟨some d, .call { callee := .value (.func f), args := args, argTypes := ts }, ty, pos, after, none⟩ :: rest) fr hp := by
 refine lst_call (first := []) (cap := []) (p := p) (val := val) (rs := fun y => .blk b (o' y) :: T) hd rfl hargs hf (fun a w ha => ?_) k
 simp only [List.nil_append, List.append_nil]
 exact hc a w (ha.permed hq.perm)
end
def hatO (nA : Option Addr) (n nc tk st : Nat) : Obj := .cells [.slice nA n nc, .int .i64 (tk : Int), .int .u64 (st : Int)].toArray 72 (0, 0)
theorem ints_get {l : List Nat} {k : Nat} (h : k < l.length) : (ints l)[k]? = some (.int .i64 ((l.getD k 0 : Nat) : Int)) := by
 unfold ints
 rw [List.getElem?_map, List.getElem?_eq_getElem h, List.getD_eq_getElem?_getD, List.getElem?_eq_getElem h]
 rfl
theorem getD_mem {l : List Nat} {k : Nat} (h : k < l.length) : l.getD k 0 ∈ l := by
 rw [List.getD_eq_getElem?_getD, List.getElem?_eq_getElem h]
 exact List.getElem_mem h
theorem F.ent26 : Enters Try.prog 26 := enters_of Try.func26 rfl (by kernel_rfl)
theorem F.ent30 : Enters Try.prog 30 := enters_of Try.func30 rfl (by kernel_rfl)
theorem F.ent47 : Enters Try.prog 47 := enters_of Try.func47 rfl (by kernel_rfl)
theorem F.ent55 : Enters Try.prog 55 := enters_of Try.func55 rfl (by kernel_rfl)
theorem F.ent58 : Enters Try.prog 58 := enters_of Try.func58 rfl (by kernel_rfl)
theorem F.fi72_0 : FI Try.prog 72 0 22 0 := ⟨_, _, Try.underlying72, rfl, rfl, rfl⟩
theorem F.fi72_1 : FI Try.prog 72 1 3 1 := ⟨_, _, Try.underlying72, rfl, rfl, rfl⟩
theorem F.fi72_2 : FI Try.prog 72 2 70 2 := ⟨_, _, Try.underlying72, rfl, rfl, rfl⟩
theorem F.one70 : One Try.prog 70 := ⟨by unfold aggB; rw [Try.underlying70], by rw [Try.underlying70]; simp⟩
theorem F.pl72 : Places Try.prog 72 [(0, 1), (1, 1), (2, 1)] := .inl ⟨_, Try.underlying72, by kernel_rfl⟩
theorem F.ti72 : TI Try.prog 72 (.agg [.slice none 0 0, .int .i64 0, .int .u64 0].toArray) 3 40 := TI.of (by kernel_rfl)
theorem stir_c {C : Ctx} {fr : List (Nat × Value)} {T : List Res} {a : Act} {w : World} (hC : C.P = Try.prog) {hb tk st nc : Nat} {nA : Option Addr} {nums : List Int} (hB : C.w0.heap.size = C.B) (hN : RdL icell 1 C.w0 nA nums) (htk : tk <= 1000000) (hst : st < 18446744073709551616) (ha : At C fr (.blk hb (.cells [.slice nA nums.length nc, .int .i64 (tk : Int), .int .u64 (st : Int)].toArray 72 (0, 0)) :: T) a w) : Calls C.P 58 #[.pointer (some ⟨hb, 0, none⟩)] w fun e w' => ∃ st' x : Nat, st' < 18446744073709551616 ∧ x < 18446744073709551616 ∧ e = .returned (.int .u64 (x : Int)) ∧ At C fr (.blk hb (.cells [.slice nA nums.length nc, .int .i64 ((tk + 1 : Nat) : Int), .int .u64 (st' : Int)].toArray 72 (0, 0)) :: T) a w' := by
 obtain ⟨P, B, w0, N0, ds⟩ := C
 obtain rfl : P = Try.prog := hC
 (try dsimp only at hB)
 (try dsimp only at hN)
 refine enter_in (N := 75) [(0, .pointer (some ⟨hb, 0, none⟩))] ha Try.func58 rfl Try.ntmps58 rfl rfl ?_
 refine cod_seq (cod_region (lst_assign rfl rfl (lst_nil (ex_then (cod_seq (cod_region (lst_move rfl rfl (lst_nilCheck rfl rfl (lst_field_z rfl rfl F.fi72_1 F.ti3 ?_)))))))))
 refine lst_load rfl rfl F.one3 ?_
 obtain ⟨v9, hv9, ev9⟩ := u64_some (tk : Int)
 refine lst_convert rfl rfl Try.underlying3 Try.underlying70 ev9 ?_
 obtain ⟨v10, hv10, ev10⟩ := u64_some ((v9 : Int) + 1)
 refine lst_int rfl rfl rfl (fun w => bin_add w ev10) ?_
 refine lst_assign rfl rfl (lst_nil (ex_then (cod_seq (cod_seq (any_begin [] F.follows 10 rfl [false, false, false, false, false, false, false, false, false, false] rfl ?_)))))
 refine any_tk 0 rfl rfl rfl (yld_move rfl) ?_
 refine any_tk 1 rfl rfl rfl (yld_nilCheck rfl) ?_
 refine any_tk 2 rfl rfl rfl (yld_field_z rfl F.fi72_1 F.ti3) ?_
 refine any_tk 3 rfl rfl rfl (yld_load rfl F.one3) ?_
 refine any_tk 4 rfl rfl rfl (yld_move rfl) ?_
 refine any_tk 5 rfl rfl rfl (yld_nilCheck rfl) ?_
 refine any_tk 6 rfl rfl rfl (yld_field_z rfl F.fi72_0 F.ti22) ?_
 refine any_tk 7 rfl rfl rfl (yld_load rfl F.one22) ?_
 refine any_tk 8 rfl rfl rfl (yld_len rfl Try.underlying22) ?_
 refine any_tk 9 rfl rfl rfl (yld_int rfl rfl bin_lss) ?_
 refine adn (ex_then (cod_ghost (G := Nat) (fun q => q < 18446744073709551616) (fun q => [(0, .pointer (some ⟨hb, 0, none⟩)), (2, .int .u64 0), (3, .int .u64 (q : Int))]) (fun _ => .blk hb (.cells [.slice nA nums.length nc, .int .i64 (tk : Int), .int .u64 (st : Int)].toArray 72 (0, 0)) :: T) ?_ ?_))
 ·refine cod_cond_dec rfl (fun hc0 => ?_) (fun hc0 => ?_)
  ·have hk' : tk < nums.length := by omega
   obtain ⟨b, o, hAe, hb', hcell⟩ := hN om
   obtain ⟨x, hx⟩ : ∃ x, nums[tk]? = some x := ⟨_, List.getElem?_eq_getElem hk'⟩
   obtain ⟨v32, hv32, ev32⟩ := u64_some x
   obtain ⟨v33, hv33, ev33⟩ := u64_some ((v32 : Int) * 13787848793156543929)
   refine any_begin [] F.follows 15 rfl [false, false, false, false, false, false, false, false, false, false, false, false, false, false, false] rfl ?_
   refine any_tk 0 rfl rfl rfl (yld_move rfl) ?_
   refine any_tk 1 rfl rfl rfl (yld_move rfl) ?_
   refine any_tk 2 rfl rfl rfl (yld_nilCheck rfl) ?_
   refine any_tk 3 rfl rfl rfl (yld_field_z rfl F.fi72_0 F.ti22) ?_
   refine any_tk 4 rfl rfl rfl (yld_load rfl F.one22) ?_
   refine any_tk 5 rfl rfl rfl (yld_move rfl) ?_
   refine any_tk 6 rfl rfl rfl (yld_nilCheck rfl) ?_
   refine any_tk 7 rfl rfl rfl (yld_field_z rfl F.fi72_1 F.ti3) ?_
   refine any_tk 8 rfl rfl rfl (yld_load rfl F.one3) ?_
   refine any_tk 9 rfl rfl rfl (yld_index (j := tk) (show _ = some (Value.slice (some ⟨b, o, none⟩) nums.length nc) from by rw [<- hAe]; rfl) rfl Try.underlying22 F.ti3 rfl hk') ?_
   refine any_tk 10 rfl rfl rfl (yld_load_at (v := .int .i64 x) rfl F.one3 (fun a w ha => ha.old (hcell tk x hx 0 _ rfl) (Nat.lt_of_lt_of_le hb' (Nat.le_of_eq hB)))) ?_
   refine an1 11 rfl ?_
   refine lst_convert rfl rfl Try.underlying3 Try.underlying70 ev32 ?_
   refine lst_nil (anb (an1 12 rfl ?_))
   refine lst_int rfl rfl rfl (fun w => bin_mul w ev33) ?_
   refine lst_nil (anb (an1 13 rfl ?_))
   refine lst_int rfl rfl rfl (fun w => bin_xor w (u64_xor v10 v33 hv10 hv33)) ?_
   refine lst_nil (anb (any_tk 14 rfl rfl rfl (yld_assign rfl) ?_))
   refine adn ?_
   exact ex_ghost (v10 ^^^ v33) (xor64 hv10 hv33) sbn pkk
  ·refine cod_skip ?_
   exact ex_ghost v10 hv10 sbn pkk
 ·rintro q hq
  (try dsimp only)
  refine ex_then (cod_seq (cod_region (lst_move rfl rfl (lst_nilCheck rfl rfl (lst_field_z rfl rfl F.fi72_1 F.ti3 ?_)))))
  refine lst_load rfl rfl F.one3 ?_
  refine lst_int rfl rfl rfl (fun w => bin_add w (show IntKind.i64.wrap ((tk : Int) + 1) = ((tk + 1 : Nat) : Int) from wrap_i64' _ om om)) ?_
  refine lst_nilCheck rfl rfl (lst_field_z rfl rfl F.fi72_1 F.ti3 ?_)
  refine lst_store rfl rfl F.ti3 rfl ?_
  refine lst_nil (ex_then (cod_seq (cod_region (lst_move rfl rfl (lst_move rfl rfl (lst_nilCheck rfl rfl (lst_field_z rfl rfl F.fi72_2 F.ti70 ?_)))))))
  refine lst_load rfl rfl F.one70 ?_
  refine lst_move rfl rfl (lst_int rfl rfl rfl (fun w => bin_xor w (u64_xor st q hst hq)) ?_)
  obtain ⟨v49, hv49, ev49⟩ := u64_some (((st ^^^ q : Nat) : Int) * 10723151780598845931)
  refine lst_int rfl rfl rfl (fun w => bin_mul w ev49) ?_
  refine lst_nilCheck rfl rfl (lst_field_z rfl rfl F.fi72_2 F.ti70 ?_)
  refine lst_store rfl rfl F.ti70 rfl ?_
  refine lst_nil (ex_then (cod_seq (cod_ghost (G := Nat) (fun s2 => s2 < 18446744073709551616) (fun s2 => [(0, .pointer (some ⟨hb, 0, none⟩)), (2, .int .u64 0)]) (fun s2 => .blk hb (.cells [.slice nA nums.length nc, .int .i64 ((tk + 1 : Nat) : Int), .int .u64 (s2 : Int)].toArray 72 (0, 0)) :: T) ?_ ?_)))
  ·refine any_begin [.b hb] F.follows 14 rfl [false, false, false, false, false, false, false, false, false, false, false, false, false, false] rfl ?_
   refine any_tk 0 rfl rfl rfl (yld_move rfl) ?_
   refine any_tk 1 rfl rfl rfl (yld_move rfl) ?_
   refine any_tk 2 rfl rfl rfl (yld_nilCheck rfl) ?_
   refine any_tk 3 rfl rfl rfl (yld_field_z rfl F.fi72_2 F.ti70) ?_
   refine any_tk 5 rfl rfl rfl (yld_move rfl) ?_
   refine any_tk 6 rfl rfl rfl (yld_nilCheck rfl) ?_
   refine any_tk 7 rfl rfl rfl (yld_field_z rfl F.fi72_2 F.ti70) ?_
   refine any_two 4 8 kr rfl rfl rfl rfl ?_ ?_
   ·refine lst_load rfl rfl F.one70 ?_
    refine lst_nil (anb (an1 8 rfl ?_))
    refine lst_load rfl rfl F.one70 ?_
    refine lst_nil (anb (an1 9 rfl ?_))
    refine lst_shr rfl rfl rfl om (fdiv_shr v49 31 _) ?_
    refine lst_nil (anb (an1 10 rfl ?_))
    refine lst_int rfl rfl rfl (fun w => bin_xor w (u64_xor v49 (v49 >>> (min 31 64)) hv49 (shr64 _ hv49))) ?_
    refine lst_nil (anb (any_tk 11 rfl rfl rfl (yld_nilCheck rfl) ?_))
    refine any_tk 12 rfl rfl rfl (yld_field_z rfl F.fi72_2 F.ti70) ?_
    refine an1 13 rfl ?_
    refine lst_store rfl rfl F.ti70 rfl ?_
    refine lst_nil (anb (adn ?_))
    exact ex_ghost (v49 ^^^ (v49 >>> (min 31 64))) (xor64 hv49 (shr64 _ hv49)) sbn pkk
   ·refine lst_load rfl rfl F.one70 ?_
    refine lst_nil (anb (any_two 4 9 kr rfl rfl rfl rfl ?_ ?_))
    ·refine lst_load rfl rfl F.one70 ?_
     refine lst_nil (anb (an1 9 rfl ?_))
     refine lst_shr rfl rfl rfl om (fdiv_shr v49 31 _) ?_
     refine lst_nil (anb (an1 10 rfl ?_))
     refine lst_int rfl rfl rfl (fun w => bin_xor w (u64_xor v49 (v49 >>> (min 31 64)) hv49 (shr64 _ hv49))) ?_
     refine lst_nil (anb (any_tk 11 rfl rfl rfl (yld_nilCheck rfl) ?_))
     refine any_tk 12 rfl rfl rfl (yld_field_z rfl F.fi72_2 F.ti70) ?_
     refine an1 13 rfl ?_
     refine lst_store rfl rfl F.ti70 rfl ?_
     refine lst_nil (anb (adn ?_))
     exact ex_ghost (v49 ^^^ (v49 >>> (min 31 64))) (xor64 hv49 (shr64 _ hv49)) sbn pkk
    ·refine lst_shr rfl rfl rfl om (fdiv_shr v49 31 _) ?_
     refine lst_nil (anb (an1 4 rfl ?_))
     refine lst_load rfl rfl F.one70 ?_
     refine lst_nil (anb (an1 10 rfl ?_))
     refine lst_int rfl rfl rfl (fun w => bin_xor w (u64_xor v49 (v49 >>> (min 31 64)) hv49 (shr64 _ hv49))) ?_
     refine lst_nil (anb (any_tk 11 rfl rfl rfl (yld_nilCheck rfl) ?_))
     refine any_tk 12 rfl rfl rfl (yld_field_z rfl F.fi72_2 F.ti70) ?_
     refine an1 13 rfl ?_
     refine lst_store rfl rfl F.ti70 rfl ?_
     refine lst_nil (anb (adn ?_))
     exact ex_ghost (v49 ^^^ (v49 >>> (min 31 64))) (xor64 hv49 (shr64 _ hv49)) sbn pkk
  ·rintro s2 hs2
   (try dsimp only)
   refine ex_then (cod_seq (cod_region ?_))
   obtain ⟨v69, hv69, ev69⟩ := u64_some ((s2 : Int) * 15485907386658061715)
   refine lst_move rfl rfl (lst_nilCheck rfl rfl (lst_field_z rfl rfl F.fi72_2 F.ti70 ?_))
   refine lst_load rfl rfl F.one70 ?_
   refine lst_int rfl rfl rfl (fun w => bin_mul w ev69) ?_
   refine lst_assign rfl rfl (lst_nil (ex_then (cod_seq (cod_region (lst_move rfl rfl (lst_move rfl rfl (lst_shr rfl rfl rfl om (fdiv_shr v69 32 _) ?_)))))))
   refine lst_int rfl rfl rfl (fun w => bin_xor w (u64_xor v69 (v69 >>> (min 32 64)) hv69 (shr64 _ hv69))) ?_
   refine lst_shr rfl rfl rfl om (fdiv_shr (v69 ^^^ (v69 >>> (min 32 64))) 9 _) ?_
   refine lst_assign rfl rfl (lst_nil (ex_then (cod_ret ?_)))
   exact ex_ret rfl (fun a w ha => res_one rfl rfl ha) (fun _ _ ha' => ⟨s2, _, hs2, shr64 _ (xor64 hv69 (shr64 _ hv69)), rfl, ha.back (ha'.pck pkk)⟩)

theorem To_c {C : Ctx} {fr : List (Nat × Value)} {T : List Res} {a : Act} {w : World} (hC : C.P = Try.prog) {hb tk st nc : Nat} {nA : Option Addr} {nums : List Int} (hB : C.w0.heap.size = C.B) (hN : RdL icell 1 C.w0 nA nums) (htk : tk <= 1000000) (hst : st < 18446744073709551616) {n : Int} (hn : n <= 1000000)  (ha : At C fr (.blk hb (.cells [.slice nA nums.length nc, .int .i64 (tk : Int), .int .u64 (st : Int)].toArray 72 (0, 0)) :: T) a w) : Calls C.P 26 #[.pointer (some ⟨hb, 0, none⟩), .int .i64 n] w fun e w' => ∃ st' x : Nat, st' < 18446744073709551616 ∧ x <= n.toNat ∧ e = .returned (.int .i64 (x : Int)) ∧ At C fr (.blk hb (.cells [.slice nA nums.length nc, .int .i64 ((tk + 1 : Nat) : Int), .int .u64 (st' : Int)].toArray 72 (0, 0)) :: T) a w' := by
 obtain ⟨P, B, w0, N0, ds⟩ := C
 obtain rfl : P = Try.prog := hC
 (try dsimp only at hB)
 (try dsimp only at hN)
 refine enter_in (N := 16) [(0, .pointer (some ⟨hb, 0, none⟩)), (1, .int .i64 n)] ha Try.func26 rfl Try.ntmps26 rfl rfl ?_
 refine cod_seq (cod_region (lst_assign rfl rfl (lst_nil (ex_then (cod_seq (cod_region (lst_move rfl rfl (lst_call (X := Nat × Nat) (first := []) (cap := []) (vs := [_]) (p := fun y => y.1 < 18446744073709551616 ∧ y.2 < 18446744073709551616) (val := fun y => .int .u64 (y.2 : Int)) (rs := fun y => .blk hb (.cells [.slice nA nums.length nc, .int .i64 ((tk + 1 : Nat) : Int), .int .u64 (y.1 : Int)].toArray 72 (0, 0)) :: T) rfl rfl rfl F.ent58 (fun a w ha => (stir_c (C := ⟨Try.prog, B, w0, _, _⟩) rfl hB hN htk hst ha).mono (fun e w' h => by obtain ⟨s', x, h1, h2, h3, h4⟩ := h; exact ⟨(s', x), ⟨h1, h2⟩, h3, h4⟩)) ?_))))))))
 rintro ⟨s1, x⟩ ⟨hs1, hx⟩
 dsimp only at hs1 hx ⊢
 refine lst_assign rfl rfl (lst_nil (ex_then (cod_seq (cod_seq (cod_region (lst_move rfl rfl (lst_int rfl rfl rfl bin_lss ?_)))))))
 refine lst_nil (ex_then (cod_cond_dec rfl (fun hc0 => ?_) (fun hc0 => ?_)))
 ·refine cod_seq (cod_region (lst_assign rfl rfl (lst_nil (ex_then (cod_ret (ex_then_ret ?_))))))
  exact ex_ret rfl (fun a w ha => res_one rfl rfl ha) (fun _ _ ha' => ⟨s1, 0, hs1, Nat.zero_le _, rfl, ha.back (ha'.pck pkk)⟩)
 ·obtain ⟨m, rfl⟩ := Int.eq_ofNat_of_zero_le (show 0 <= n by omega)
  refine cod_skip (ex_then (cod_seq (cod_region (lst_move rfl rfl (lst_move rfl rfl (lst_convert rfl rfl Try.underlying3 Try.underlying70 (wrap_u64 m om) ?_))))))
  refine lst_int rfl rfl rfl (fun w => bin_add w (wrap_u64_succ om)) ?_
  refine lst_int rfl rfl rfl (fun w => bin_rem w om (tmod_nat x (m + 1))) ?_
  have hmod : x % (m + 1) < m + 1 := Nat.mod_lt _ om
  refine lst_convert rfl rfl Try.underlying70 Try.underlying3 (wrap_i64' _ om om) ?_
  refine lst_assign rfl rfl (lst_nil (ex_then (cod_ret ?_)))
  exact ex_ret rfl (fun a w ha => res_one rfl rfl ha) (fun _ _ ha' => ⟨s1, x % (m + 1), hs1, by rw [Int.toNat_natCast]; omega, rfl, ha.back (ha'.pck pkk)⟩)

theorem lst_To {C : Ctx} {fr : List (Nat × Value)} {hp T : List Res} {ops : Array Oper} {Q : Exit -> Act -> World -> Prop} {rest : List Oper} {d : Nat} {ty : TypeId} {pos : String} {after : Array Edge} {args : Array Operand} {ts : Array TypeId} {hb tk st nc : Nat} {nA : Option Addr} {nums : List Int} {n : Int} [hq : Pul hb (hatO nA nums.length nc tk st) hp T]
  (hP : C.P = Try.prog) (hd : Nat.blt d C.N = true) (hargs : args.toList.map (ev fr) = ([.pointer (some ⟨hb, 0, none⟩), .int .i64 n] : List Value).map some) (hB : C.w0.heap.size = C.B) (hN : RdL icell 1 C.w0 nA nums) (hst : st < 18446744073709551616) (htk : tk <= 1000000) (hn : n <= 1000000)
  (k : ∀ (s x : Nat), s < 18446744073709551616 -> x <= n.toNat -> Lst C ops Q rest ((d, .int .i64 (x : Int)) :: fr) (.blk hb (hatO nA nums.length nc (tk + 1) s) :: T)) : Lst C ops Q (⟨some d, .call { callee := .value (.func 26), args := args, argTypes := ts }, ty, pos, after, none⟩ :: rest) fr hp := by
 refine lst_call_pul (X := Nat × Nat) hb (fun y => hatO nA nums.length nc (tk + 1) y.1) (fun y => y.1 < 18446744073709551616 ∧ y.2 <= n.toNat) (fun y => .int .i64 (y.2 : Int)) hd hargs (hP ▸ F.ent26) (fun a w ha => (To_c hP hB hN htk hst hn ha).mono fun e w' h => ?_) fun y hy => k y.1 y.2 hy.1 hy.2
 obtain ⟨s', x, h1, h2, h3, h4⟩ := h
 exact ⟨(s', x), ⟨h1, h2⟩, h3, h4⟩

theorem From_c {C : Ctx} {fr : List (Nat × Value)} {T : List Res} {a : Act} {w : World} (hC : C.P = Try.prog) {hb tk st nc : Nat} {nA : Option Addr} {nums : List Int} (hB : C.w0.heap.size = C.B) (hN : RdL icell 1 C.w0 nA nums) (htk : tk <= 1000000) (hst : st < 18446744073709551616) {lo hi : Nat} (hlh : lo <= hi) (hhi : hi <= 1000) (ha : At C fr (.blk hb (hatO nA nums.length nc (tk) (st)) :: T) a w) : Calls C.P 30 #[.pointer (some ⟨hb, 0, none⟩), .int .i64 (lo : Int), .int .i64 (hi : Int)] w fun e w' => ∃ st' x : Nat, st' < 18446744073709551616 ∧ lo <= x ∧ x <= hi ∧ e = .returned (.int .i64 (x : Int)) ∧ At C fr (.blk hb (hatO nA nums.length nc (tk + 1) (st')) :: T) a w' := by
 obtain ⟨P, B, w0, N0, ds⟩ := C
 obtain rfl : P = Try.prog := hC
 (try dsimp only at hB)
 (try dsimp only at hN)
 refine enter_in (N := 14) [(0, .pointer (some ⟨hb, 0, none⟩)), (1, .int .i64 (lo : Int)), (2, .int .i64 (hi : Int))] ha Try.func30 rfl Try.ntmps30 rfl rfl ?_
 refine cod_seq (cod_region (lst_assign rfl rfl (lst_nil (ex_then (cod_seq (cod_region (lst_move rfl rfl (lst_move rfl rfl (lst_move rfl rfl (lst_move rfl rfl (lst_int rfl rfl rfl (fun w => bin_sub w (wrap_i64' ((hi : Int) - (lo : Int)) om om)) ?_)))))))))))
 refine lst_To rfl rfl rfl hB hN hst om om ?_
 rintro s1 x1 hs1 hx1
 refine lst_int rfl rfl rfl (fun w => bin_add w (show IntKind.i64.wrap ((lo : Int) + (x1 : Int)) = ((lo + x1 : Nat) : Int) from wrap_i64' _ om om)) ?_
 refine lst_assign rfl rfl (lst_nil (ex_then (cod_ret ?_)))
 exact ex_ret rfl (fun a w ha => res_one rfl rfl ha) (fun _ _ ha' => ⟨s1, lo + x1, hs1, by omega, by omega, rfl, ha.back (ha'.pck pkk)⟩)

theorem lst_From {C : Ctx} {fr : List (Nat × Value)} {hp T : List Res} {ops : Array Oper} {Q : Exit -> Act -> World -> Prop} {rest : List Oper} {d : Nat} {ty : TypeId} {pos : String} {after : Array Edge} {args : Array Operand} {ts : Array TypeId} {hb tk st nc : Nat} {nA : Option Addr} {nums : List Int} {lo hi : Nat} [hq : Pul hb (hatO nA nums.length nc tk st) hp T]
  (hP : C.P = Try.prog) (hd : Nat.blt d C.N = true) (hargs : args.toList.map (ev fr) = ([.pointer (some ⟨hb, 0, none⟩), .int .i64 (lo : Int), .int .i64 (hi : Int)] : List Value).map some) (hB : C.w0.heap.size = C.B) (hN : RdL icell 1 C.w0 nA nums) (hst : st < 18446744073709551616) (htk : tk <= 1000000) (hlh : lo <= hi) (hhi : hi <= 1000)
  (k : ∀ (s x : Nat), s < 18446744073709551616 -> lo <= x -> x <= hi -> Lst C ops Q rest ((d, .int .i64 (x : Int)) :: fr) (.blk hb (hatO nA nums.length nc (tk + 1) s) :: T)) : Lst C ops Q (⟨some d, .call { callee := .value (.func 30), args := args, argTypes := ts }, ty, pos, after, none⟩ :: rest) fr hp := by
 refine lst_call_pul (X := Nat × Nat) hb (fun y => hatO nA nums.length nc (tk + 1) y.1) (fun y => y.1 < 18446744073709551616 ∧ lo <= y.2 ∧ y.2 <= hi) (fun y => .int .i64 (y.2 : Int)) hd hargs (hP ▸ F.ent30) (fun a w ha => (From_c hP hB hN htk hst hlh hhi ha).mono fun e w' h => ?_) fun y hy => k y.1 y.2 hy.1 hy.2.1 hy.2.2
 obtain ⟨s', x, h1, h2, h3, h4, h5⟩ := h
 exact ⟨(s', x), ⟨h1, h2, h3⟩, h4, h5⟩

theorem Seldom_c {C : Ctx} {fr : List (Nat × Value)} {T : List Res} {a : Act} {w : World} (hC : C.P = Try.prog) {hb tk st nc : Nat} {nA : Option Addr} {nums : List Int} (hB : C.w0.heap.size = C.B) (hN : RdL icell 1 C.w0 nA nums) (htk : tk <= 1000000) (hst : st < 18446744073709551616) {n : Int} (hn0 : 0 <= n) (hn : n <= 1000000) (ha : At C fr (.blk hb (hatO nA nums.length nc (tk) (st)) :: T) a w) : Calls C.P 55 #[.pointer (some ⟨hb, 0, none⟩), .int .i64 n] w fun e w' => ∃ (st' : Nat) (b : Bool), st' < 18446744073709551616 ∧ e = .returned (.bool b) ∧ At C fr (.blk hb (hatO nA nums.length nc (tk + 1) (st')) :: T) a w' := by
 obtain ⟨P, B, w0, N0, ds⟩ := C
 obtain rfl : P = Try.prog := hC
 (try dsimp only at hB)
 (try dsimp only at hN)
 refine enter_in (N := 10) [(0, .pointer (some ⟨hb, 0, none⟩)), (1, .int .i64 n)] ha Try.func55 rfl Try.ntmps55 rfl rfl ?_
 refine cod_seq (cod_region (lst_assign rfl rfl (lst_nil (ex_then (cod_seq (cod_region (lst_move rfl rfl (lst_move rfl rfl (lst_int rfl rfl rfl (fun w => bin_sub w (wrap_i64' (n - 1) om om)) ?_)))))))))
 refine lst_To rfl rfl rfl hB hN hst om om ?_
 rintro s1 x1 hs1 hx1
 refine lst_int rfl rfl rfl bin_eql ?_
 refine lst_assign rfl rfl (lst_nil (ex_then (cod_ret ?_)))
 exact ex_ret rfl (fun a w ha => res_one rfl rfl ha) (fun _ _ ha' => ⟨s1, _, hs1, rfl, ha.back (ha'.pck pkk)⟩)

theorem lst_Seldom {C : Ctx} {fr : List (Nat × Value)} {hp T : List Res} {ops : Array Oper} {Q : Exit -> Act -> World -> Prop} {rest : List Oper} {d : Nat} {ty : TypeId} {pos : String} {after : Array Edge} {args : Array Operand} {ts : Array TypeId} {hb tk st nc : Nat} {nA : Option Addr} {nums : List Int} {n : Int} [hq : Pul hb (hatO nA nums.length nc tk st) hp T]
  (hP : C.P = Try.prog) (hd : Nat.blt d C.N = true) (hargs : args.toList.map (ev fr) = ([.pointer (some ⟨hb, 0, none⟩), .int .i64 n] : List Value).map some) (hB : C.w0.heap.size = C.B) (hN : RdL icell 1 C.w0 nA nums) (hst : st < 18446744073709551616) (htk : tk <= 1000000) (hn0 : 0 <= n) (hn : n <= 1000000)
  (k : ∀ (s : Nat) (b : Bool), s < 18446744073709551616 -> Lst C ops Q rest ((d, .bool b) :: fr) (.blk hb (hatO nA nums.length nc (tk + 1) s) :: T)) : Lst C ops Q (⟨some d, .call { callee := .value (.func 55), args := args, argTypes := ts }, ty, pos, after, none⟩ :: rest) fr hp := by
 refine lst_call_pul (X := Nat × Bool) hb (fun y => hatO nA nums.length nc (tk + 1) y.1) (fun y => y.1 < 18446744073709551616) (fun y => .bool y.2) hd hargs (hP ▸ F.ent55) (fun a w ha => (Seldom_c hP hB hN htk hst hn0 hn ha).mono fun e w' h => ?_) fun y hy => k y.1 y.2 hy
 obtain ⟨s', x, h1, h2, h3⟩ := h
 exact ⟨(s', x), h1, h2, h3⟩

theorem One_c {C : Ctx} {fr : List (Nat × Value)} {T : List Res} {a : Act} {w : World} (hC : C.P = Try.prog) {hb tk st nc : Nat} {nA : Option Addr} {nums : List Int} (hB : C.w0.heap.size = C.B) (hN : RdL icell 1 C.w0 nA nums) (htk : tk <= 1000000) (hst : st < 18446744073709551616) {lb lc : Nat} {l : List Nat} (hl1 : 1 <= l.length) (hl2 : l.length <= 100) (hm : Res.blk lb (.cells (ints l).toArray 3 (0, 0)) ∈ T) (ha : At C fr (.blk hb (hatO nA nums.length nc (tk) (st)) :: T) a w) : Calls C.P 47 #[.pointer (some ⟨hb, 0, none⟩), .slice (some ⟨lb, 0, none⟩) l.length lc] w fun e w' => ∃ st' x : Nat, st' < 18446744073709551616 ∧ x ∈ l ∧ e = .returned (.int .i64 (x : Int)) ∧ At C fr (.blk hb (hatO nA nums.length nc (tk + 1) (st')) :: T) a w' := by
 obtain ⟨P, B, w0, N0, ds⟩ := C
 obtain rfl : P = Try.prog := hC
 (try dsimp only at hB)
 (try dsimp only at hN)
 refine enter_in (N := 13) [(0, .pointer (some ⟨hb, 0, none⟩)), (1, .slice (some ⟨lb, 0, none⟩) l.length lc)] ha Try.func47 rfl Try.ntmps47 rfl rfl ?_
 refine cod_seq (cod_region (lst_assign rfl rfl (lst_nil (ex_then (cod_seq (cod_region (lst_move rfl rfl (lst_move rfl rfl (lst_move rfl rfl (lst_len rfl rfl Try.underlying22 ?_))))))))))
 refine lst_int rfl rfl rfl (fun w => bin_sub w (wrap_i64' ((l.length : Int) - 1) om om)) ?_
 refine lst_To rfl rfl rfl hB hN hst om om ?_
 rintro s1 x1 hs1 hx1
 have hx : x1 < l.length := by omega
 refine lst_index (j := x1) rfl rfl rfl Try.underlying22 F.ti3 rfl hx ?_
 refine lst_load_at (v := .int .i64 ((l.getD x1 0 : Nat) : Int)) rfl rfl F.one3 (fun a w ha => by rw [Nat.zero_add, Nat.mul_one]; exact cell_of_blk (ha.mem_blk (List.mem_cons_of_mem _ hm)) (ints_get hx)) ?_
 refine lst_assign rfl rfl (lst_nil (ex_then (cod_ret ?_)))
 exact ex_ret rfl (fun a w ha => res_one rfl rfl ha) (fun _ _ ha' => ⟨s1, l.getD x1 0, hs1, getD_mem hx, rfl, ha.back (ha'.pck pkk)⟩)

theorem lst_One {C : Ctx} {fr : List (Nat × Value)} {hp T : List Res} {ops : Array Oper} {Q : Exit -> Act -> World -> Prop} {rest : List Oper} {d : Nat} {ty : TypeId} {pos : String} {after : Array Edge} {args : Array Operand} {ts : Array TypeId} {hb tk st nc : Nat} {nA : Option Addr} {nums : List Int} (l : List Nat) {lb lc : Nat} [hq : Pul hb (hatO nA nums.length nc tk st) hp T]
  (hP : C.P = Try.prog) (hd : Nat.blt d C.N = true) (hargs : args.toList.map (ev fr) = ([.pointer (some ⟨hb, 0, none⟩), .slice (some ⟨lb, 0, none⟩) l.length lc] : List Value).map some) (hB : C.w0.heap.size = C.B) (hN : RdL icell 1 C.w0 nA nums) (hst : st < 18446744073709551616) (htk : tk <= 1000000) (hl1 : 1 <= l.length) (hl2 : l.length <= 100) (hm : Res.blk lb (.cells (ints l).toArray 3 (0, 0)) ∈ T)
  (k : ∀ (s x : Nat), s < 18446744073709551616 -> x ∈ l -> Lst C ops Q rest ((d, .int .i64 (x : Int)) :: fr) (.blk hb (hatO nA nums.length nc (tk + 1) s) :: T)) : Lst C ops Q (⟨some d, .call { callee := .value (.func 47), args := args, argTypes := ts }, ty, pos, after, none⟩ :: rest) fr hp := by
 refine lst_call_pul (X := Nat × Nat) hb (fun y => hatO nA nums.length nc (tk + 1) y.1) (fun y => y.1 < 18446744073709551616 ∧ y.2 ∈ l) (fun y => .int .i64 (y.2 : Int)) hd hargs (hP ▸ F.ent47) (fun a w ha => (One_c hP hB hN htk hst hl1 hl2 hm ha).mono fun e w' h => ?_) fun y hy => k y.1 y.2 hy.1 hy.2
 obtain ⟨s', x, h1, h2, h3, h4⟩ := h
 exact ⟨(s', x), ⟨h1, h2⟩, h3, h4⟩

theorem NewHat_c (nA : Option Addr) (n nc : Nat) (w : World) : Calls Try.prog 13 #[.slice nA n nc] w fun e w' => ∃ b, e = .returned (.pointer (some ⟨b, 0, none⟩)) ∧ Grew w w' [.blk b (hatO nA n nc 0 11400714819323198485)] := by
 refine enter (N := 6) [(0, .slice nA n nc)] Try.func13 rfl Try.ntmps13 rfl rfl ?_
 refine cod_seq (cod_region (lst_assign rfl rfl (lst_nil (ex_then (cod_seq (cod_region (lst_move rfl rfl (lst_struct (vs := [(0, _), (2, _)]) (l' := [_, _, _]) rfl rfl F.ti72 F.pl72 (.cons rfl rfl (.cons rfl rfl (.nil _))) rfl ?_))))))))
 refine lst_box rfl rfl ?_
 intro b5
 refine lst_assign rfl rfl (lst_nil (ex_then (cod_ret ?_)))
 exact ex_ret rfl (fun a w ha => res_one rfl rfl ha) (fun a w ha => ⟨b5, rfl, ha.grown sbl⟩)

section
variable {C : Ctx} {fr : List (Nat × Value)} {hp hp' : List Res} {a : Act} {w : World} {ops : Array Oper} {Q : Exit -> Act -> World -> Prop} {rest : List Oper}
 {d : Nat} {ty : TypeId} {pos : String} {after : Array Edge}
theorem lst_call_pul2 {X : Type} (b : Nat) {o : Obj} (o' : X -> Obj) (rs : X -> List Res) {T : List Res} {f : FuncId} {vs : List Value} {args : Array Operand} {ts : Array TypeId} (p : X -> Prop) (val : X -> Value) [hq : Pul b o hp T] (hd : Nat.blt d C.N = true)
  (hargs : args.toList.map (ev fr) = vs.map some) (hf : Enters C.P f)
  (hc : ∀ a w, At C fr (.blk b o :: T) a w -> Calls C.P f vs.toArray w fun e w' => ∃ y, p y ∧ e = .returned (val y) ∧ At C fr (rs y ++ .blk b (o' y) :: T) a w')
  (k : ∀ y, p y -> Lst C ops Q rest ((d, val y) :: fr) (rs y ++ .blk b (o' y) :: T)) : Lst C ops Q (⟨some d, .call { callee := .value (.func f), args := args, argTypes := ts }, ty, pos, after, none⟩ :: rest) fr hp := by
 refine lst_call (first := []) (cap := []) (p := p) (val := val) (rs := fun y => rs y ++ .blk b (o' y) :: T) hd rfl hargs hf (fun a w ha => ?_) k
 simp only [List.nil_append, List.append_nil]
 exact hc a w (ha.permed hq.perm)
end
theorem F.ent14 : Enters Try.prog 14 := enters_of Try.func14 rfl (by kernel_rfl)
theorem F.ent27 : Enters Try.prog 27 := enters_of Try.func27 rfl (by kernel_rfl)
theorem FilterOf_c {C : Ctx} {fr : List (Nat × Value)} {T : List Res} {a : Act} {w : World} (hC : C.P = Try.prog) {hb tk st nc : Nat} {nA : Option Addr} {nums : List Int} (hB : C.w0.heap.size = C.B) (hN : RdL icell 1 C.w0 nA nums) (htk : tk <= 900000) (hst : st < 18446744073709551616) (ha : At C fr (.blk hb (hatO nA nums.length nc (tk) (st)) :: T) a w) : Calls C.P 27 #[.pointer (some ⟨hb, 0, none⟩)] w fun e w' => ∃ (tk' st' : Nat) (f : Flt), tk' <= tk + 10 ∧ st' < 18446744073709551616 ∧ FltOk f ∧ e = .returned (.agg [.int .i64 (f.power : Int), .int .i64 (f.gain : Int), .int .i64 (f.now : Int), .bool f.washed].toArray) ∧ At C fr (.blk hb (hatO nA nums.length nc (tk') (st')) :: T) a w' := by
 obtain ⟨P, B, w0, N0, ds⟩ := C
 obtain rfl : P = Try.prog := hC
 (try dsimp only at hB)
 (try dsimp only at hN)
 refine enter_in (N := 30) [(0, .pointer (some ⟨hb, 0, none⟩))] ha Try.func27 rfl Try.ntmps27 rfl rfl ?_
 refine cod_seq (cod_region (lst_alloc rfl F.ti49 ?_))
 intro b2
 refine lst_nil (ex_then (cod_seq (cod_region (lst_move rfl rfl (lst_lit (vs := [(0, _), (1, _), (2, _), (3, _), (4, _), (5, _)]) rfl rfl Try.underlying22 F.ti3 rfl rfl rfl ?_)))))
 intro b5
 refine lst_One [1, 2, 2, 3, 3, 4] rfl rfl rfl hB hN hst om (by simp) (by simp) (InB.mem (b := b5)) ?_
 rintro s1 pw hs1 hpw
 simp only [List.mem_cons, List.not_mem_nil, or_false] at hpw
 refine lst_struct (vs := [(0, _)]) (l' := [_, _, _, _]) rfl rfl F.ti49 F.pl49 (.cons rfl rfl (.nil _)) rfl ?_
 refine lst_alloc rfl F.ti49 ?_
 intro b3
 refine lst_store rfl rfl F.ti49 rfl ?_
 refine lst_nil (ex_then (cod_seq (cod_ghost (G := Nat × Nat) (fun g => g.1 < 18446744073709551616 ∧ g.2 <= pw) (fun g => [(0, .pointer (some ⟨hb, 0, none⟩)), (2, .pointer (some ⟨b2, 0, none⟩)), (3, .pointer (some ⟨b3, 0, none⟩))]) (fun g => .blk hb (hatO nA nums.length nc (tk + 1 + 1 + 1) (g.1)) :: .blk b3 (.cells [.int .i64 (pw : Int), .int .i64 (g.2 : Int), .int .i64 (pw : Int), .bool false].toArray 49 (0, 0)) :: .blk b2 (.cells [.int .i64 0, .int .i64 0, .int .i64 0, .bool false].toArray 49 (0, 0)) :: T) ?_ ?_)))
 ·refine any_begin [.b b3, .b hb] F.follows 13 rfl [false, false, false, false, false, false, false, false, false, false, false, false, false] rfl ?_
  refine any_tk 0 rfl rfl rfl (yld_move rfl) ?_
  refine any_tk 1 rfl rfl rfl (yld_move rfl) ?_
  refine any_tk 2 rfl rfl rfl (yld_field_z rfl F.fi49_0 F.ti3) ?_
  refine any_tk 7 rfl rfl rfl (yld_field_z rfl F.fi49_0 F.ti3) ?_
  refine any_two 3 8 kr rfl rfl rfl rfl ?_ ?_
  ·refine lst_load rfl rfl F.one3 ?_
   refine lst_nil (anb (any_two 4 8 kr rfl rfl rfl rfl ?_ ?_))
   ·refine lst_To rfl rfl rfl hB hN hs1 om om ?_
    rintro s2 g1 hs2 hg1
    refine lst_nil (anb (any_two 5 8 kr rfl rfl rfl rfl ?_ ?_))
    ·refine lst_lit (vs := [(0, _), (1, _), (2, _), (3, _)]) rfl rfl Try.underlying22 F.ti3 rfl rfl rfl ?_
     intro b13
     refine lst_nil (anb (any_two 6 8 kr rfl rfl rfl rfl ?_ ?_))
     ·refine lst_One [0, 1, 1, g1] rfl rfl rfl hB hN hs2 om (by simp) (by simp) (InB.mem (b := b13)) ?_
      rintro s3 gn hs3 hgn
      simp only [List.mem_cons, List.not_mem_nil, or_false] at hgn
      refine lst_nil (anb (an1 8 rfl ?_))
      refine lst_load rfl rfl F.one3 ?_
      refine lst_nil (anb (any_tk 9 rfl rfl rfl (yld_field_z rfl F.fi49_1 F.ti3) ?_))
      refine an1 10 rfl ?_
      refine lst_store rfl rfl F.ti3 rfl ?_
      refine lst_nil (anb (any_tk 11 rfl rfl rfl (yld_field_z rfl F.fi49_2 F.ti3) ?_))
      refine an1 12 rfl ?_
      refine lst_store rfl rfl F.ti3 rfl ?_
      refine lst_nil (anb (adn ?_))
      exact ex_ghost (s3, gn) ⟨hs3, by dsimp only; omega⟩ sbn pkk
     ·refine lst_load rfl rfl F.one3 ?_
      refine lst_nil (anb (an1 6 rfl ?_))
      refine lst_One [0, 1, 1, g1] rfl rfl rfl hB hN hs2 om (by simp) (by simp) (InB.mem (b := b13)) ?_
      rintro s3 gn hs3 hgn
      simp only [List.mem_cons, List.not_mem_nil, or_false] at hgn
      refine lst_nil (anb (any_tk 9 rfl rfl rfl (yld_field_z rfl F.fi49_1 F.ti3) ?_))
      refine an1 10 rfl ?_
      refine lst_store rfl rfl F.ti3 rfl ?_
      refine lst_nil (anb (any_tk 11 rfl rfl rfl (yld_field_z rfl F.fi49_2 F.ti3) ?_))
      refine an1 12 rfl ?_
      refine lst_store rfl rfl F.ti3 rfl ?_
      refine lst_nil (anb (adn ?_))
      exact ex_ghost (s3, gn) ⟨hs3, by dsimp only; omega⟩ sbn pkk
    ·refine lst_load rfl rfl F.one3 ?_
     refine lst_nil (anb (an1 5 rfl ?_))
     refine lst_lit (vs := [(0, _), (1, _), (2, _), (3, _)]) rfl rfl Try.underlying22 F.ti3 rfl rfl rfl ?_
     intro b13
     refine lst_nil (anb (an1 6 rfl ?_))
     refine lst_One [0, 1, 1, g1] rfl rfl rfl hB hN hs2 om (by simp) (by simp) (InB.mem (b := b13)) ?_
     rintro s3 gn hs3 hgn
     simp only [List.mem_cons, List.not_mem_nil, or_false] at hgn
     refine lst_nil (anb (any_tk 9 rfl rfl rfl (yld_field_z rfl F.fi49_1 F.ti3) ?_))
     refine an1 10 rfl ?_
     refine lst_store rfl rfl F.ti3 rfl ?_
     refine lst_nil (anb (any_tk 11 rfl rfl rfl (yld_field_z rfl F.fi49_2 F.ti3) ?_))
     refine an1 12 rfl ?_
     refine lst_store rfl rfl F.ti3 rfl ?_
     refine lst_nil (anb (adn ?_))
     exact ex_ghost (s3, gn) ⟨hs3, by dsimp only; omega⟩ sbn pkk
   ·refine lst_load rfl rfl F.one3 ?_
    refine lst_nil (anb (an1 4 rfl ?_))
    refine lst_To rfl rfl rfl hB hN hs1 om om ?_
    rintro s2 g1 hs2 hg1
    refine lst_nil (anb (an1 5 rfl ?_))
    refine lst_lit (vs := [(0, _), (1, _), (2, _), (3, _)]) rfl rfl Try.underlying22 F.ti3 rfl rfl rfl ?_
    intro b13
    refine lst_nil (anb (an1 6 rfl ?_))
    refine lst_One [0, 1, 1, g1] rfl rfl rfl hB hN hs2 om (by simp) (by simp) (InB.mem (b := b13)) ?_
    rintro s3 gn hs3 hgn
    simp only [List.mem_cons, List.not_mem_nil, or_false] at hgn
    refine lst_nil (anb (any_tk 9 rfl rfl rfl (yld_field_z rfl F.fi49_1 F.ti3) ?_))
    refine an1 10 rfl ?_
    refine lst_store rfl rfl F.ti3 rfl ?_
    refine lst_nil (anb (any_tk 11 rfl rfl rfl (yld_field_z rfl F.fi49_2 F.ti3) ?_))
    refine an1 12 rfl ?_
    refine lst_store rfl rfl F.ti3 rfl ?_
    refine lst_nil (anb (adn ?_))
    exact ex_ghost (s3, gn) ⟨hs3, by dsimp only; omega⟩ sbn pkk
  ·refine lst_load rfl rfl F.one3 ?_
   refine lst_nil (anb (an1 3 rfl ?_))
   refine lst_load rfl rfl F.one3 ?_
   refine lst_nil (anb (an1 4 rfl ?_))
   refine lst_To rfl rfl rfl hB hN hs1 om om ?_
   rintro s2 g1 hs2 hg1
   refine lst_nil (anb (an1 5 rfl ?_))
   refine lst_lit (vs := [(0, _), (1, _), (2, _), (3, _)]) rfl rfl Try.underlying22 F.ti3 rfl rfl rfl ?_
   intro b13
   refine lst_nil (anb (an1 6 rfl ?_))
   refine lst_One [0, 1, 1, g1] rfl rfl rfl hB hN hs2 om (by simp) (by simp) (InB.mem (b := b13)) ?_
   rintro s3 gn hs3 hgn
   simp only [List.mem_cons, List.not_mem_nil, or_false] at hgn
   refine lst_nil (anb (any_tk 9 rfl rfl rfl (yld_field_z rfl F.fi49_1 F.ti3) ?_))
   refine an1 10 rfl ?_
   refine lst_store rfl rfl F.ti3 rfl ?_
   refine lst_nil (anb (any_tk 11 rfl rfl rfl (yld_field_z rfl F.fi49_2 F.ti3) ?_))
   refine an1 12 rfl ?_
   refine lst_store rfl rfl F.ti3 rfl ?_
   refine lst_nil (anb (adn ?_))
   exact ex_ghost (s3, gn) ⟨hs3, by dsimp only; omega⟩ sbn pkk
 ·rintro ⟨s3, gn⟩ ⟨hs3, hgn⟩
  dsimp only at hs3 hgn ⊢
  refine ex_then (cod_seq (cod_seq (cod_region (lst_move rfl rfl (lst_Seldom rfl rfl rfl hB hN hs3 om om om ?_)))))
  rintro s4 sb hs4
  refine lst_nil (ex_then (cod_cond_bool rfl (fun hc0 => ?_) (fun hc0 => ?_)))
  ·refine cod_region (lst_move rfl rfl (lst_field_z rfl rfl F.fi49_0 F.ti3 ?_))
   refine lst_load rfl rfl F.one3 ?_
   refine lst_To rfl rfl rfl hB hN hs4 om om ?_
   rintro s5 nw hs5 hnw
   refine lst_field_z rfl rfl F.fi49_2 F.ti3 ?_
   refine lst_store rfl rfl F.ti3 rfl ?_
   refine lst_nil (ex_then (cod_seq (cod_region (lst_move rfl rfl (lst_Seldom rfl rfl rfl hB hN hs5 om om om ?_)))))
   rintro s6 wb hs6
   refine lst_field_z rfl rfl F.fi49_3 F.ti4 ?_
   refine lst_store rfl rfl F.ti4 rfl ?_
   refine lst_nil (ex_then (cod_seq (cod_region (lst_loadN rfl rfl F.agg49 F.ti49 ?_))))
   refine lst_store rfl rfl F.ti49 rfl ?_
   refine lst_nil (ex_then (cod_ret ?_))
   exact ex_ret rfl (fun a w ha => by exact res_cellN (ha := ha) rfl rfl F.agg49 F.ti49 rfl) (fun _ _ ha' => ⟨tk + 1 + 1 + 1 + 1 + 1 + 1, s6, ⟨pw, gn, nw, wb⟩, by omega, hs6, ⟨by show 1 <= pw; omega, by show pw <= 4; omega, by show gn <= pw; omega, by show nw <= pw; omega⟩, rfl, ha.back (ha'.pck pkk)⟩)
  ·refine cod_skip (ex_then (cod_seq (cod_region (lst_move rfl rfl (lst_Seldom rfl rfl rfl hB hN hs4 om om om ?_)))))
   rintro s6 wb hs6
   refine lst_field_z rfl rfl F.fi49_3 F.ti4 ?_
   refine lst_store rfl rfl F.ti4 rfl ?_
   refine lst_nil (ex_then (cod_seq (cod_region (lst_loadN rfl rfl F.agg49 F.ti49 ?_))))
   refine lst_store rfl rfl F.ti49 rfl ?_
   refine lst_nil (ex_then (cod_ret ?_))
   exact ex_ret rfl (fun a w ha => by exact res_cellN (ha := ha) rfl rfl F.agg49 F.ti49 rfl) (fun _ _ ha' => ⟨tk + 1 + 1 + 1 + 1 + 1, s6, ⟨pw, gn, pw, wb⟩, by omega, hs6, ⟨by show 1 <= pw; omega, by show pw <= 4; omega, by show gn <= pw; omega, by show pw <= pw; omega⟩, rfl, ha.back (ha'.pck pkk)⟩)

theorem CharOf_c {C : Ctx} {fr : List (Nat × Value)} {T : List Res} {a : Act} {w : World} (hC : C.P = Try.prog) {hb tk st nc : Nat} {nA : Option Addr} {nums : List Int} (hB : C.w0.heap.size = C.B) (hN : RdL icell 1 C.w0 nA nums) (htk : tk <= 800000) (hst : st < 18446744073709551616) {nf ny : Nat} (hf1 : 1 <= nf) (hf3 : nf <= 3) (hy1 : 1 <= ny) (hy4 : ny <= 4) (ha : At C fr (.blk hb (hatO nA nums.length nc (tk) (st)) :: T) a w) : Calls C.P 14 #[.pointer (some ⟨hb, 0, none⟩), .int .i64 (nf : Int), .int .i64 (ny : Int)] w fun e w' => ∃ (tk' st' kiln : Nat) (fs : List Flt) (days : List Nat) (A D : Option Addr) (c dc : Nat), tk' <= tk + 100 ∧ st' < 18446744073709551616 ∧ fs.length <= nf ∧ days.length <= ny ∧ ChV fs kiln days ∧ e = .returned (.agg [.slice A fs.length c, .int .i64 (kiln : Int), .slice D days.length dc].toArray) ∧ At C fr (.row 49 4 A fs.length c (fs.flatMap Flt.cells) :: .row 3 1 D days.length dc (ints days) :: .blk hb (hatO nA nums.length nc (tk') (st')) :: T) a w' := by
 obtain ⟨P, B, w0, N0, ds⟩ := C
 obtain rfl : P = Try.prog := hC
 (try dsimp only at hB)
 (try dsimp only at hN)
 refine enter_in (N := 59) [(0, .pointer (some ⟨hb, 0, none⟩)), (1, .int .i64 (nf : Int)), (2, .int .i64 (ny : Int))] ha Try.func14 rfl Try.ntmps14 rfl rfl ?_
 refine cod_seq (cod_region (lst_alloc rfl F.ti27 ?_))
 intro b6
 refine lst_nil (ex_then (cod_seq (cod_region (lst_move rfl rfl (lst_lit (vs := [(0, _), (1, _), (2, _), (3, _)]) rfl rfl Try.underlying22 F.ti3 rfl rfl rfl ?_)))))
 intro b13
 refine lst_One [0, 1, 1, 2] rfl rfl rfl hB hN hst om (by simp) (by simp) (InB.mem (b := b13)) ?_
 rintro s0 kiln hs0 hkiln
 simp only [List.mem_cons, List.not_mem_nil, or_false] at hkiln
 refine lst_struct (vs := [(1, _)]) (l' := [_, _, _]) rfl rfl F.ti27 F.pl27 (.cons rfl rfl (.nil _)) rfl ?_
 refine lst_alloc rfl F.ti27 ?_
 intro b7
 refine lst_store rfl rfl F.ti27 rfl ?_
 refine lst_nil (ex_then (cod_seq (cod_region (lst_assign rfl rfl (lst_nil (ex_then (cod_seq (cod_seq (cod_region (lst_move rfl rfl (lst_move rfl rfl (lst_From (lo := 1) (hi := nf) rfl rfl rfl hB hN hs0 om om om ?_))))))))))))
 rintro s1 n0 hs1 hn0a hn0b
 refine lst_assign rfl rfl (lst_nil (ex_then (cod_block (cod_nil 49 4 ?_))))
 refine cod_loop' (G := Nat × Nat × Nat × Option Addr × Nat × List Flt × Nat) (fun g => g.1 + g.2.2.2.2.2.1.length = n0 ∧ (∀ x ∈ g.2.2.2.2.2.1, FltOk x) ∧ g.2.1 <= tk + 2 + 10 * g.2.2.2.2.2.1.length ∧ g.2.2.1 < 18446744073709551616 ∧ g.2.2.2.2.2.2 <= 4 * g.2.2.2.2.2.1.length) (fun g => g.1) (fun g => [(0, .pointer (some ⟨hb, 0, none⟩)), (1, .int .i64 (nf : Int)), (2, .int .i64 (ny : Int)), (6, .pointer (some ⟨b6, 0, none⟩)), (7, .pointer (some ⟨b7, 0, none⟩)), (8, .int .i64 (g.2.2.2.2.2.2 : Int)), (9, .int .i64 (g.1 : Int))]) (fun g => .row 49 4 g.2.2.2.1 g.2.2.2.2.2.1.length g.2.2.2.2.1 (g.2.2.2.2.2.1.flatMap Flt.cells) :: .blk b7 (.cells [.slice g.2.2.2.1 g.2.2.2.2.2.1.length g.2.2.2.2.1, .int .i64 (kiln : Int), .slice none 0 0].toArray 27 (0, 0)) :: .blk b6 (.cells [.slice none 0 0, .int .i64 0, .slice none 0 0].toArray 27 (0, 0)) :: .blk hb (hatO nA nums.length nc (g.2.1) (g.2.2.1)) :: T) (n0, tk + 1 + 1, s1, none, 0, [], 0) ⟨by simp, by simp, by simp, hs1, by simp⟩ sbn pkk ?_
 rintro ⟨i, t1, s2, A1, c1, fs, sm⟩ ⟨hil, hlo, ht1, hs2, hsm⟩
 (try dsimp only at hil hlo ht1 hs2 hsm ⊢)
 refine cod_seq (cod_seq (cod_region (lst_move rfl rfl (lst_int rfl rfl rfl bin_gtr ?_))))
 refine lst_nil (ex_then (cod_cond_dec rfl (fun hc0 => ?_) (fun hc0 => ?_)))
 ·obtain ⟨i, rfl⟩ : ∃ i', i = i' + 1 := ⟨i - 1, by omega⟩
  refine cod_skip (ex_then (cod_seq (cod_block (cod_seq (cod_region (lst_move rfl rfl (lst_call_pul (X := Nat × Nat × Flt) (vs := [_]) hb (fun y => hatO nA nums.length nc (y.1) (y.2.1)) (fun y => y.1 <= t1 + 10 ∧ y.2.1 < 18446744073709551616 ∧ FltOk y.2.2) (fun y => .agg [.int .i64 (y.2.2.power : Int), .int .i64 (y.2.2.gain : Int), .int .i64 (y.2.2.now : Int), .bool y.2.2.washed].toArray) rfl rfl F.ent27 (fun a w ha => (FilterOf_c (C := ⟨Try.prog, B, w0, _, _⟩) rfl hB hN (tk := t1) (st := s2) om hs2 ha).mono (fun e w' h => by obtain ⟨t', s', x, h1, h2, h3, h4, h5⟩ := h; exact ⟨(t', s', x), ⟨h1, h2, h3⟩, h4, h5⟩)) ?_)))))))
  rintro ⟨t2, s3, ⟨pw, gn, nw, wd⟩⟩ ⟨ht2, hs3, hfo⟩
  dsimp only at ht2 hs3 hfo ⊢
  refine lst_alloc rfl F.ti49 ?_
  intro b10
  refine lst_store rfl rfl F.ti49 rfl ?_
  refine lst_nil (ex_then (cod_ghost (G := Option Addr × Nat) (fun _ => True) (fun x => [(0, .pointer (some ⟨hb, 0, none⟩)), (1, .int .i64 (nf : Int)), (2, .int .i64 (ny : Int)), (6, .pointer (some ⟨b6, 0, none⟩)), (7, .pointer (some ⟨b7, 0, none⟩)), (8, .int .i64 ((sm + pw : Nat) : Int)), (9, .int .i64 ((i + 1 : Nat) : Int))]) (fun x => .row 49 4 x.1 (fs.length + 1) x.2 (fs.flatMap Flt.cells ++ [.int .i64 (pw : Int), .int .i64 (gn : Int), .int .i64 (nw : Int), .bool wd]) :: .blk b7 (.cells [.slice x.1 (fs.length + 1) x.2, .int .i64 (kiln : Int), .slice none 0 0].toArray 27 (0, 0)) :: .blk b6 (.cells [.slice none 0 0, .int .i64 0, .slice none 0 0].toArray 27 (0, 0)) :: .blk hb (hatO nA nums.length nc (t2) (s3)) :: T) ?_ ?_))
  ·refine any_begin [.b b7, .r A1] F.follows 12 rfl [false, false, false, false, false, false, false, false, false, false, false, false] rfl ?_
   have hpw4 : pw <= 4 := hfo.2.1
   refine any_tk 0 rfl rfl rfl (yld_field_z rfl F.fi27_0 F.ti25) ?_
   refine any_tk 2 rfl rfl rfl (yld_loadN rfl F.agg49 F.ti49) ?_
   refine any_tk 5 rfl rfl rfl (yld_move rfl) ?_
   refine any_tk 6 rfl rfl rfl (yld_field_z rfl F.fi49_0 F.ti3) ?_
   refine any_tk 7 rfl rfl rfl (yld_load rfl F.one3) ?_
   refine any_tk 8 rfl rfl rfl (yld_int (v := .int .i64 ((sm + pw : Nat) : Int)) rfl rfl (fun w => bin_add w (wrap_i64' _ om om))) ?_
   refine any_two 1 3 kr rfl rfl rfl rfl ?_ ?_
   ·refine lst_load rfl rfl F.one25 ?_
    refine lst_nil (anb (an1 3 rfl ?_))
    refine lst_litN (vs := [(0, .agg ([.int .i64 (pw : Int), .int .i64 (gn : Int), .int .i64 (nw : Int), .bool wd] : List Value).toArray)]) [.int .i64 (pw : Int), .int .i64 (gn : Int), .int .i64 (nw : Int), .bool wd] rfl rfl Try.underlying25 F.ti49 rfl rfl rfl (Lit.agg (l1 := [.int .i64 (pw : Int), .int .i64 (gn : Int), .int .i64 (nw : Int), .bool wd]) (l := []) rfl rfl) ?_
    intro b28
    refine lst_nil (anb (an1 4 rfl ?_))
    refine lst_append rfl rfl rfl Try.underlying25 F.ti49 rfl rfl rfl (by unfold maxLen; omega) om ?_
    intro A2 c2
    refine lst_nil (anb (any_tk 9 rfl rfl rfl (yld_field_z rfl F.fi27_0 F.ti25) ?_))
    refine an1 10 rfl ?_
    refine lst_store rfl rfl F.ti25 rfl ?_
    refine lst_nil (anb (any_tk 11 rfl rfl rfl (yld_assign rfl) ?_))
    refine adn ?_
    exact ex_ghost (A2, c2) trivial sbn pkk
   ·refine lst_litN (vs := [(0, .agg ([.int .i64 (pw : Int), .int .i64 (gn : Int), .int .i64 (nw : Int), .bool wd] : List Value).toArray)]) [.int .i64 (pw : Int), .int .i64 (gn : Int), .int .i64 (nw : Int), .bool wd] rfl rfl Try.underlying25 F.ti49 rfl rfl rfl (Lit.agg (l1 := [.int .i64 (pw : Int), .int .i64 (gn : Int), .int .i64 (nw : Int), .bool wd]) (l := []) rfl rfl) ?_
    intro b28
    refine lst_nil (anb (an1 1 rfl ?_))
    refine lst_load rfl rfl F.one25 ?_
    refine lst_nil (anb (an1 4 rfl ?_))
    refine lst_append rfl rfl rfl Try.underlying25 F.ti49 rfl rfl rfl (by unfold maxLen; omega) om ?_
    intro A2 c2
    refine lst_nil (anb (any_tk 9 rfl rfl rfl (yld_field_z rfl F.fi27_0 F.ti25) ?_))
    refine an1 10 rfl ?_
    refine lst_store rfl rfl F.ti25 rfl ?_
    refine lst_nil (anb (any_tk 11 rfl rfl rfl (yld_assign rfl) ?_))
    refine adn ?_
    exact ex_ghost (A2, c2) trivial sbn pkk
  ·rintro ⟨A2, c2⟩ -
   have hpw4 : pw <= 4 := hfo.2.1
   (try dsimp only)
   refine ex_block_normal (ex_then (cod_region (lst_move rfl rfl (lst_int rfl rfl rfl (fun w => bin_sub w (show IntKind.i64.wrap (((i + 1 : Nat) : Int) - 1) = (i : Int) from by rw [wrap_i64' _ om om]; omega)) ?_))))
   refine lst_assign rfl rfl (lst_nil (ex_round' (i, t2, s3, A2, c2, fs ++ [⟨pw, gn, nw, wd⟩], sm + pw) ⟨by simp; omega, fun y hy => ?_, by simp; omega, hs3, by simp; omega⟩ tdo (by dsimp only; (try rw [List.length_append, List.length_singleton]); repeat (first | exact Sub.nil _ | refine Sub.cons rfl ?_)) (by dsimp only; rw [List.length_append, List.length_singleton]; rw [List.flatMap_append, List.flatMap_singleton]; repeat (first | exact Pck.nil _ | exact Pck.refl _ | (apply Pck.cons; focus ((repeat (first | exact Rem.here _ | apply Rem.there)); done)) | refine Pck.skip _ ?_))))
   rcases List.mem_append.1 hy with h | h
   ·exact hlo y h
   ·simp at h; subst h; exact hfo
 ·obtain rfl : i = 0 := by omega
  have hn0 : fs.length = n0 := by omega
  have hfl1 : 1 <= fs.length := by omega
  have hfl2 : fs.length <= nf := by omega
  refine cod_exit (ex_then_exit (ex_then_exit (ex_block_exit (ex_then (cod_seq (cod_seq (cod_region (lst_move rfl rfl (lst_move rfl rfl (lst_From (lo := 1) (hi := ny) rfl rfl rfl hB hN hs2 om om om ?_))))))))))
  rintro s4 m0 hs4 hm0a hm0b
  refine lst_assign rfl rfl (lst_nil (ex_then (cod_block (cod_nil 3 1 ?_))))
  refine cod_loop' (G := Nat × Nat × Nat × Option Addr × Nat × List Nat) (fun g => g.1 + g.2.2.2.2.2.length = m0 ∧ (∀ x ∈ g.2.2.2.2.2, x <= 12) ∧ g.2.1 <= t1 + 1 + 3 * g.2.2.2.2.2.length ∧ g.2.2.1 < 18446744073709551616) (fun g => g.1) (fun g => [(0, .pointer (some ⟨hb, 0, none⟩)), (1, .int .i64 (nf : Int)), (2, .int .i64 (ny : Int)), (6, .pointer (some ⟨b6, 0, none⟩)), (7, .pointer (some ⟨b7, 0, none⟩)), (8, .int .i64 (sm : Int)), (11, .int .i64 (g.1 : Int))]) (fun g => .row 3 1 g.2.2.2.1 g.2.2.2.2.2.length g.2.2.2.2.1 (ints g.2.2.2.2.2) :: .row 49 4 A1 fs.length c1 (fs.flatMap Flt.cells) :: .blk b7 (.cells [.slice A1 fs.length c1, .int .i64 (kiln : Int), .slice g.2.2.2.1 g.2.2.2.2.2.length g.2.2.2.2.1].toArray 27 (0, 0)) :: .blk b6 (.cells [.slice none 0 0, .int .i64 0, .slice none 0 0].toArray 27 (0, 0)) :: .blk hb (hatO nA nums.length nc (g.2.1) (g.2.2.1)) :: T) (m0, t1 + 1, s4, none, 0, []) ⟨by simp, by simp, by simp, hs4⟩ sbn pkk ?_
  rintro ⟨i, t3, s5, A3, c3, ds⟩ ⟨hjl, hdo, ht3, hs5⟩
  (try dsimp only at hjl hdo ht3 hs5 ⊢)
  refine cod_seq (cod_seq (cod_region (lst_move rfl rfl (lst_int rfl rfl rfl bin_gtr ?_))))
  refine lst_nil (ex_then (cod_cond_dec rfl (fun hc1 => ?_) (fun hc1 => ?_)))
  ·obtain ⟨i, rfl⟩ : ∃ i', i = i' + 1 := ⟨i - 1, by omega⟩
   refine cod_skip (ex_then (cod_seq (cod_block (cod_ghost (G := Option Addr × Nat × Nat × Nat) (fun x => x.2.2.1 < 18446744073709551616 ∧ x.2.2.2 <= 12) (fun x => [(0, .pointer (some ⟨hb, 0, none⟩)), (1, .int .i64 (nf : Int)), (2, .int .i64 (ny : Int)), (6, .pointer (some ⟨b6, 0, none⟩)), (7, .pointer (some ⟨b7, 0, none⟩)), (8, .int .i64 (sm : Int)), (11, .int .i64 ((i + 1 : Nat) : Int))]) (fun x => .row 3 1 x.1 (ds.length + 1) x.2.1 (ints ds ++ [.int .i64 (x.2.2.2 : Int)]) :: .row 49 4 A1 fs.length c1 (fs.flatMap Flt.cells) :: .blk b7 (.cells [.slice A1 fs.length c1, .int .i64 (kiln : Int), .slice x.1 (ds.length + 1) x.2.1].toArray 27 (0, 0)) :: .blk b6 (.cells [.slice none 0 0, .int .i64 0, .slice none 0 0].toArray 27 (0, 0)) :: .blk hb (hatO nA nums.length nc (t3 + 1 + 1 + 1) (x.2.2.1)) :: T) ?_ ?_))))
   ·refine any_begin [.b b7, .b hb, .r A3] F.follows 17 rfl [false, false, false, false, false, false, false, false, false, false, false, false, false, false, false, false, false] rfl ?_
    refine any_tk 0 rfl rfl rfl (yld_field_z rfl F.fi27_2 F.ti22) ?_
    refine any_tk 2 rfl rfl rfl (yld_move rfl) ?_
    refine any_tk 3 rfl rfl rfl (yld_move rfl) ?_
    refine any_tk 4 rfl rfl rfl (yld_move rfl) ?_
    refine any_tk 5 rfl rfl rfl (yld_int (v := .int .i64 ((sm / 2 : Nat) : Int)) rfl rfl (fun w => bin_quo w om (by rw [show ((sm : Int).tdiv 2) = ((sm / 2 : Nat) : Int) from (Int.ofNat_tdiv sm 2).symm]; exact wrap_i64' _ om om))) ?_
    refine any_tk 8 rfl rfl rfl (yld_move rfl) ?_
    refine any_tk 9 rfl rfl rfl (yld_move rfl) ?_
    refine any_two 1 6 kr rfl rfl rfl rfl ?_ ?_
    ·refine lst_load rfl rfl F.one22 ?_
     refine lst_nil (anb (an1 6 rfl ?_))
     refine lst_max rfl rfl rfl ?_
     rw [show (if (1 : Int) < ((sm / 2 : Nat) : Int) then ((sm / 2 : Nat) : Int) else 1) = ((max 1 (sm / 2) : Nat) : Int) from by split <;> omega]
     refine lst_nil (anb (an1 7 rfl ?_))
     refine lst_To rfl rfl rfl hB hN hs5 om om ?_
     rintro s6 y1 hs6 hy1
     refine lst_nil (anb (an1 10 rfl ?_))
     refine lst_To rfl rfl rfl hB hN hs6 om om ?_
     rintro s7 y2 hs7 hy2
     refine lst_nil (anb (an1 11 rfl ?_))
     refine lst_lit (vs := [(0, _), (1, _), (2, _), (3, _), (4, _)]) rfl rfl Try.underlying22 F.ti3 rfl rfl rfl ?_
     intro b53
     refine lst_nil (anb (an1 12 rfl ?_))
     refine lst_One [0, 1, 2, y1, y2] rfl rfl rfl hB hN hs7 om (by simp) (by simp) (InB.mem (b := b53)) ?_
     rintro s8 d1 hs8 hd1
     simp only [List.mem_cons, List.not_mem_nil, or_false] at hd1
     have hd12 : d1 <= 12 := by omega
     refine lst_nil (anb (an1 13 rfl ?_))
     refine lst_lit (vs := [(0, _)]) rfl rfl Try.underlying22 F.ti3 rfl rfl rfl ?_
     intro b55
     refine lst_nil (anb (an1 14 rfl ?_))
     refine lst_append rfl rfl rfl Try.underlying22 F.ti3 rfl rfl rfl (by unfold maxLen; omega) om ?_
     intro A4 c4
     refine lst_nil (anb (any_tk 15 rfl rfl rfl (yld_field_z rfl F.fi27_2 F.ti22) ?_))
     refine an1 16 rfl ?_
     refine lst_store rfl rfl F.ti22 rfl ?_
     refine lst_nil (anb (adn ?_))
     exact ex_ghost (A4, c4, s8, d1) ⟨hs8, hd12⟩ sbn pkk
    ·refine lst_max rfl rfl rfl ?_
     rw [show (if (1 : Int) < ((sm / 2 : Nat) : Int) then ((sm / 2 : Nat) : Int) else 1) = ((max 1 (sm / 2) : Nat) : Int) from by split <;> omega]
     refine lst_nil (anb (any_two 1 7 kr rfl rfl rfl rfl ?_ ?_))
     ·refine lst_load rfl rfl F.one22 ?_
      refine lst_nil (anb (an1 7 rfl ?_))
      refine lst_To rfl rfl rfl hB hN hs5 om om ?_
      rintro s6 y1 hs6 hy1
      refine lst_nil (anb (an1 10 rfl ?_))
      refine lst_To rfl rfl rfl hB hN hs6 om om ?_
      rintro s7 y2 hs7 hy2
      refine lst_nil (anb (an1 11 rfl ?_))
      refine lst_lit (vs := [(0, _), (1, _), (2, _), (3, _), (4, _)]) rfl rfl Try.underlying22 F.ti3 rfl rfl rfl ?_
      intro b53
      refine lst_nil (anb (an1 12 rfl ?_))
      refine lst_One [0, 1, 2, y1, y2] rfl rfl rfl hB hN hs7 om (by simp) (by simp) (InB.mem (b := b53)) ?_
      rintro s8 d1 hs8 hd1
      simp only [List.mem_cons, List.not_mem_nil, or_false] at hd1
      have hd12 : d1 <= 12 := by omega
      refine lst_nil (anb (an1 13 rfl ?_))
      refine lst_lit (vs := [(0, _)]) rfl rfl Try.underlying22 F.ti3 rfl rfl rfl ?_
      intro b55
      refine lst_nil (anb (an1 14 rfl ?_))
      refine lst_append rfl rfl rfl Try.underlying22 F.ti3 rfl rfl rfl (by unfold maxLen; omega) om ?_
      intro A4 c4
      refine lst_nil (anb (any_tk 15 rfl rfl rfl (yld_field_z rfl F.fi27_2 F.ti22) ?_))
      refine an1 16 rfl ?_
      refine lst_store rfl rfl F.ti22 rfl ?_
      refine lst_nil (anb (adn ?_))
      exact ex_ghost (A4, c4, s8, d1) ⟨hs8, hd12⟩ sbn pkk
     ·refine lst_To rfl rfl rfl hB hN hs5 om om ?_
      rintro s6 y1 hs6 hy1
      refine lst_nil (anb (any_two 1 10 kr rfl rfl rfl rfl ?_ ?_))
      ·refine lst_load rfl rfl F.one22 ?_
       refine lst_nil (anb (an1 10 rfl ?_))
       refine lst_To rfl rfl rfl hB hN hs6 om om ?_
       rintro s7 y2 hs7 hy2
       refine lst_nil (anb (an1 11 rfl ?_))
       refine lst_lit (vs := [(0, _), (1, _), (2, _), (3, _), (4, _)]) rfl rfl Try.underlying22 F.ti3 rfl rfl rfl ?_
       intro b53
       refine lst_nil (anb (an1 12 rfl ?_))
       refine lst_One [0, 1, 2, y1, y2] rfl rfl rfl hB hN hs7 om (by simp) (by simp) (InB.mem (b := b53)) ?_
       rintro s8 d1 hs8 hd1
       simp only [List.mem_cons, List.not_mem_nil, or_false] at hd1
       have hd12 : d1 <= 12 := by omega
       refine lst_nil (anb (an1 13 rfl ?_))
       refine lst_lit (vs := [(0, _)]) rfl rfl Try.underlying22 F.ti3 rfl rfl rfl ?_
       intro b55
       refine lst_nil (anb (an1 14 rfl ?_))
       refine lst_append rfl rfl rfl Try.underlying22 F.ti3 rfl rfl rfl (by unfold maxLen; omega) om ?_
       intro A4 c4
       refine lst_nil (anb (any_tk 15 rfl rfl rfl (yld_field_z rfl F.fi27_2 F.ti22) ?_))
       refine an1 16 rfl ?_
       refine lst_store rfl rfl F.ti22 rfl ?_
       refine lst_nil (anb (adn ?_))
       exact ex_ghost (A4, c4, s8, d1) ⟨hs8, hd12⟩ sbn pkk
      ·refine lst_To rfl rfl rfl hB hN hs6 om om ?_
       rintro s7 y2 hs7 hy2
       refine lst_nil (anb (any_two 1 11 kr rfl rfl rfl rfl ?_ ?_))
       ·refine lst_load rfl rfl F.one22 ?_
        refine lst_nil (anb (an1 11 rfl ?_))
        refine lst_lit (vs := [(0, _), (1, _), (2, _), (3, _), (4, _)]) rfl rfl Try.underlying22 F.ti3 rfl rfl rfl ?_
        intro b53
        refine lst_nil (anb (an1 12 rfl ?_))
        refine lst_One [0, 1, 2, y1, y2] rfl rfl rfl hB hN hs7 om (by simp) (by simp) (InB.mem (b := b53)) ?_
        rintro s8 d1 hs8 hd1
        simp only [List.mem_cons, List.not_mem_nil, or_false] at hd1
        have hd12 : d1 <= 12 := by omega
        refine lst_nil (anb (an1 13 rfl ?_))
        refine lst_lit (vs := [(0, _)]) rfl rfl Try.underlying22 F.ti3 rfl rfl rfl ?_
        intro b55
        refine lst_nil (anb (an1 14 rfl ?_))
        refine lst_append rfl rfl rfl Try.underlying22 F.ti3 rfl rfl rfl (by unfold maxLen; omega) om ?_
        intro A4 c4
        refine lst_nil (anb (any_tk 15 rfl rfl rfl (yld_field_z rfl F.fi27_2 F.ti22) ?_))
        refine an1 16 rfl ?_
        refine lst_store rfl rfl F.ti22 rfl ?_
        refine lst_nil (anb (adn ?_))
        exact ex_ghost (A4, c4, s8, d1) ⟨hs8, hd12⟩ sbn pkk
       ·refine lst_lit (vs := [(0, _), (1, _), (2, _), (3, _), (4, _)]) rfl rfl Try.underlying22 F.ti3 rfl rfl rfl ?_
        intro b53
        refine lst_nil (anb (any_two 1 12 kr rfl rfl rfl rfl ?_ ?_))
        ·refine lst_load rfl rfl F.one22 ?_
         refine lst_nil (anb (an1 12 rfl ?_))
         refine lst_One [0, 1, 2, y1, y2] rfl rfl rfl hB hN hs7 om (by simp) (by simp) (InB.mem (b := b53)) ?_
         rintro s8 d1 hs8 hd1
         simp only [List.mem_cons, List.not_mem_nil, or_false] at hd1
         have hd12 : d1 <= 12 := by omega
         refine lst_nil (anb (an1 13 rfl ?_))
         refine lst_lit (vs := [(0, _)]) rfl rfl Try.underlying22 F.ti3 rfl rfl rfl ?_
         intro b55
         refine lst_nil (anb (an1 14 rfl ?_))
         refine lst_append rfl rfl rfl Try.underlying22 F.ti3 rfl rfl rfl (by unfold maxLen; omega) om ?_
         intro A4 c4
         refine lst_nil (anb (any_tk 15 rfl rfl rfl (yld_field_z rfl F.fi27_2 F.ti22) ?_))
         refine an1 16 rfl ?_
         refine lst_store rfl rfl F.ti22 rfl ?_
         refine lst_nil (anb (adn ?_))
         exact ex_ghost (A4, c4, s8, d1) ⟨hs8, hd12⟩ sbn pkk
        ·refine lst_One [0, 1, 2, y1, y2] rfl rfl rfl hB hN hs7 om (by simp) (by simp) (InB.mem (b := b53)) ?_
         rintro s8 d1 hs8 hd1
         simp only [List.mem_cons, List.not_mem_nil, or_false] at hd1
         have hd12 : d1 <= 12 := by omega
         refine lst_nil (anb (any_two 1 13 kr rfl rfl rfl rfl ?_ ?_))
         ·refine lst_load rfl rfl F.one22 ?_
          refine lst_nil (anb (an1 13 rfl ?_))
          refine lst_lit (vs := [(0, _)]) rfl rfl Try.underlying22 F.ti3 rfl rfl rfl ?_
          intro b55
          refine lst_nil (anb (an1 14 rfl ?_))
          refine lst_append rfl rfl rfl Try.underlying22 F.ti3 rfl rfl rfl (by unfold maxLen; omega) om ?_
          intro A4 c4
          refine lst_nil (anb (any_tk 15 rfl rfl rfl (yld_field_z rfl F.fi27_2 F.ti22) ?_))
          refine an1 16 rfl ?_
          refine lst_store rfl rfl F.ti22 rfl ?_
          refine lst_nil (anb (adn ?_))
          exact ex_ghost (A4, c4, s8, d1) ⟨hs8, hd12⟩ sbn pkk
         ·refine lst_lit (vs := [(0, _)]) rfl rfl Try.underlying22 F.ti3 rfl rfl rfl ?_
          intro b55
          refine lst_nil (anb (an1 1 rfl ?_))
          refine lst_load rfl rfl F.one22 ?_
          refine lst_nil (anb (an1 14 rfl ?_))
          refine lst_append rfl rfl rfl Try.underlying22 F.ti3 rfl rfl rfl (by unfold maxLen; omega) om ?_
          intro A4 c4
          refine lst_nil (anb (any_tk 15 rfl rfl rfl (yld_field_z rfl F.fi27_2 F.ti22) ?_))
          refine an1 16 rfl ?_
          refine lst_store rfl rfl F.ti22 rfl ?_
          refine lst_nil (anb (adn ?_))
          exact ex_ghost (A4, c4, s8, d1) ⟨hs8, hd12⟩ sbn pkk
   ·rintro ⟨A4, c4, s8, d1⟩ ⟨hs8, hd12⟩
    dsimp only at hs8 hd12 ⊢
    refine ex_block_normal (ex_then (cod_region (lst_move rfl rfl (lst_int rfl rfl rfl (fun w => bin_sub w (show IntKind.i64.wrap (((i + 1 : Nat) : Int) - 1) = (i : Int) from by rw [wrap_i64' _ om om]; omega)) ?_))))
    refine lst_assign rfl rfl (lst_nil (ex_round' (i, t3 + 1 + 1 + 1, s8, A4, c4, ds ++ [d1]) ⟨by simp; omega, fun y hy => ?_, by simp; omega, hs8⟩ tdo (by dsimp only; (try rw [List.length_append, List.length_singleton]); repeat (first | exact Sub.nil _ | refine Sub.cons rfl ?_)) (by dsimp only; rw [List.length_append, List.length_singleton]; rw [ints_snoc]; repeat (first | exact Pck.nil _ | exact Pck.refl _ | (apply Pck.cons; focus ((repeat (first | exact Rem.here _ | apply Rem.there)); done)) | refine Pck.skip _ ?_))))
    rcases List.mem_append.1 hy with h | h
    ·exact hdo y h
    ·simp at h; subst h; exact hd12
  ·obtain rfl : i = 0 := by omega
   refine cod_exit (ex_then_exit (ex_then_exit (ex_block_exit (ex_then (cod_seq (cod_region (lst_loadN rfl rfl F.agg27 F.ti27 ?_)))))))
   refine lst_store rfl rfl F.ti27 rfl ?_
   refine lst_nil (ex_then (cod_ret ?_))
   exact ex_ret rfl (fun a w ha => by exact res_cellN (ha := ha) rfl rfl F.agg27 F.ti27 rfl) (fun _ _ ha' => ⟨t3, s5, kiln, fs, ds, A1, A3, c1, c3, by omega, hs5, hfl2, by omega, ⟨hfl1, by omega, hlo, by omega, by omega, by omega, hdo⟩, rfl, ha.back (ha'.pck pkk)⟩)

theorem made_c {C : Ctx} {fr : List (Nat × Value)} {T : List Res} {a : Act} {w : World} (hC : C.P = Try.prog) {hb tk st nc : Nat} {nA : Option Addr} {nums : List Int} (hB : C.w0.heap.size = C.B) (hN : RdL icell 1 C.w0 nA nums) (htk : tk <= 700000) (hst : st < 18446744073709551616) (ha : At C fr (.blk hb (hatO nA nums.length nc (tk) (st)) :: T) a w) : Calls C.P 22 #[.pointer (some ⟨hb, 0, none⟩)] w fun e w' => ∃ (tk' st' kiln : Nat) (fs : List Flt) (days : List Nat) (A D : Option Addr) (c dc : Nat), tk' <= tk + 101 ∧ st' < 18446744073709551616 ∧ ChV fs kiln days ∧ e = .returned (.agg [.slice A fs.length c, .int .i64 (kiln : Int), .slice D days.length dc].toArray) ∧ At C fr (.row 49 4 A fs.length c (fs.flatMap Flt.cells) :: .row 3 1 D days.length dc (ints days) :: .blk hb (hatO nA nums.length nc (tk') (st')) :: T) a w' := by
 obtain ⟨P, B, w0, N0, ds⟩ := C
 obtain rfl : P = Try.prog := hC
 (try dsimp only at hB)
 (try dsimp only at hN)
 refine enter_in (N := 9) [(0, .pointer (some ⟨hb, 0, none⟩))] ha Try.func22 rfl Try.ntmps22 rfl rfl ?_
 refine cod_seq (cod_region (lst_alloc rfl F.ti27 ?_))
 intro b2
 refine lst_nil (ex_then (cod_seq (cod_seq (cod_region (lst_move rfl rfl (lst_Seldom rfl rfl rfl hB hN hst om om om ?_))))))
 rintro s1 sb hs1
 refine lst_nil (ex_then (cod_cond_bool rfl (fun hc0 => ?_) (fun hc0 => ?_)))
 ·refine cod_seq (cod_region (lst_move rfl rfl (lst_call_pul2 (X := Nat × Nat × Nat × List Flt × List Nat × Option Addr × Option Addr × Nat × Nat) (vs := [_, _, _]) hb (fun y => hatO nA nums.length nc y.1 y.2.1) (fun y => [.row 49 4 y.2.2.2.2.2.1 y.2.2.2.1.length y.2.2.2.2.2.2.2.1 (y.2.2.2.1.flatMap Flt.cells), .row 3 1 y.2.2.2.2.2.2.1 y.2.2.2.2.1.length y.2.2.2.2.2.2.2.2 (ints y.2.2.2.2.1)]) (fun y => y.1 <= (tk + 1) + 100 ∧ y.2.1 < 18446744073709551616 ∧ y.2.2.2.1.length <= 3 ∧ y.2.2.2.2.1.length <= 2 ∧ ChV y.2.2.2.1 y.2.2.1 y.2.2.2.2.1) (fun y => .agg [.slice y.2.2.2.2.2.1 y.2.2.2.1.length y.2.2.2.2.2.2.2.1, .int .i64 (y.2.2.1 : Int), .slice y.2.2.2.2.2.2.1 y.2.2.2.2.1.length y.2.2.2.2.2.2.2.2].toArray) rfl rfl F.ent14 (fun a w ha => (CharOf_c (C := ⟨Try.prog, B, w0, _, _⟩) rfl hB hN (tk := (tk + 1)) (st := s1) (nf := 3) (ny := 2) om hs1 om om om om ha).mono (fun e w' h => by obtain ⟨t', s', k', f', d', A', D', c', dc', h1, h2, h3, h4, h5, h6, h7⟩ := h; exact ⟨(t', s', k', f', d', A', D', c', dc'), ⟨h1, h2, h3, h4, h5⟩, h6, h7⟩)) ?_)))
  rintro ⟨t2, s2, kiln, fs, days, A, D, c, dc⟩ ⟨ht2, hs2, hfsl, hdaysl, hfsv⟩
  dsimp only [List.cons_append, List.nil_append] at ht2 hs2 hfsl hdaysl hfsv ⊢
  refine lst_store rfl rfl F.ti27 rfl ?_
  refine lst_nil (ex_then (cod_ret (ex_then_ret ?_)))
  exact ex_ret rfl (fun a w ha => by exact res_cellN (ha := ha) rfl rfl F.agg27 F.ti27 rfl) (fun _ _ ha' => ⟨t2, s2, kiln, fs, days, A, D, c, dc, by omega, hs2, hfsv, rfl, ha.back (ha'.pck pkk)⟩)
 ·refine cod_skip (ex_then (cod_seq (cod_region (lst_move rfl rfl (lst_call_pul2 (X := Nat × Nat × Nat × List Flt × List Nat × Option Addr × Option Addr × Nat × Nat) (vs := [_, _, _]) hb (fun y => hatO nA nums.length nc y.1 y.2.1) (fun y => [.row 49 4 y.2.2.2.2.2.1 y.2.2.2.1.length y.2.2.2.2.2.2.2.1 (y.2.2.2.1.flatMap Flt.cells), .row 3 1 y.2.2.2.2.2.2.1 y.2.2.2.2.1.length y.2.2.2.2.2.2.2.2 (ints y.2.2.2.2.1)]) (fun y => y.1 <= (tk + 1) + 100 ∧ y.2.1 < 18446744073709551616 ∧ y.2.2.2.1.length <= 2 ∧ y.2.2.2.2.1.length <= 4 ∧ ChV y.2.2.2.1 y.2.2.1 y.2.2.2.2.1) (fun y => .agg [.slice y.2.2.2.2.2.1 y.2.2.2.1.length y.2.2.2.2.2.2.2.1, .int .i64 (y.2.2.1 : Int), .slice y.2.2.2.2.2.2.1 y.2.2.2.2.1.length y.2.2.2.2.2.2.2.2].toArray) rfl rfl F.ent14 (fun a w ha => (CharOf_c (C := ⟨Try.prog, B, w0, _, _⟩) rfl hB hN (tk := (tk + 1)) (st := s1) (nf := 2) (ny := 4) om hs1 om om om om ha).mono (fun e w' h => by obtain ⟨t', s', k', f', d', A', D', c', dc', h1, h2, h3, h4, h5, h6, h7⟩ := h; exact ⟨(t', s', k', f', d', A', D', c', dc'), ⟨h1, h2, h3, h4, h5⟩, h6, h7⟩)) ?_)))))
  rintro ⟨t2, s2, kiln, fs, days, A, D, c, dc⟩ ⟨ht2, hs2, hfsl, hdaysl, hfsv⟩
  dsimp only [List.cons_append, List.nil_append] at ht2 hs2 hfsl hdaysl hfsv ⊢
  refine lst_store rfl rfl F.ti27 rfl ?_
  refine lst_nil (ex_then (cod_ret ?_))
  exact ex_ret rfl (fun a w ha => by exact res_cellN (ha := ha) rfl rfl F.agg27 F.ti27 rfl) (fun _ _ ha' => ⟨t2, s2, kiln, fs, days, A, D, c, dc, by omega, hs2, hfsv, rfl, ha.back (ha'.pck pkk)⟩)

variable {C : Ctx} {fr : List (Nat × Value)} {hp : List Res} {ops : Array Oper} {Q : Exit -> Act -> World -> Prop} {rest : List Oper} {d : Nat} {ty : TypeId} {pos : String} {after : Array Edge}
theorem flatMap_len {α : Type} {cells : α -> List Value} {size : Nat} (hs : ∀ x, (cells x).length = size) (l : List α) : (l.flatMap cells).length = l.length * size := by
 induction l with
 | nil => simp
 | cons x l ih => rw [List.flatMap_cons, List.length_append, hs, ih, List.length_cons, Nat.succ_mul]; omega
theorem RdL.cells_at {α : Type} {cells : α -> List Value} {size : Nat} (hs : ∀ x, (cells x).length = size) (h0 : 0 < size) {w : World} {p : Addr} {l : List α} (h : RdL cells size w (some p) l) {j : Nat} {u : Value} (hu : (l.flatMap cells)[j]? = some u) : w.cell? (p.add j) = some u := by
 have hj : j < l.length * size := by
  rw [<- flatMap_len hs]
  rcases Nat.lt_or_ge j (l.flatMap cells).length with h1 | h1
  ·exact h1
  ·rw [List.getElem?_eq_none h1] at hu; cases hu
 have hk : j / size < l.length := Nat.div_lt_of_lt_mul (by rw [Nat.mul_comm]; exact hj)
 obtain ⟨b, o, h1, _, h3⟩ := h (Nat.lt_of_le_of_lt (Nat.zero_le _) hk)
 cases h1
 have hd := Nat.div_add_mod j size
 rw [Nat.mul_comm] at hd
 have hm : j % size < size := Nat.mod_lt _ h0
 have hx : l[j / size]? = some l[j / size] := List.getElem?_eq_getElem hk
 have hjs : j % size < (cells l[j / size]).length := by rw [hs]; exact hm
 have hc : (cells l[j / size])[j % size]? = some (cells l[j / size])[j % size] := List.getElem?_eq_getElem hjs
 have h4 := flatMap_get hs l _ _ hx _ _ hc
 rw [hd, hu] at h4
 have h5 := h3 _ _ hx _ _ hc
 rw [addr_add]
 rw [Nat.add_assoc, hd] at h5
 rw [h5]
 exact h4.symm
theorem lst_append_cells {α : Type} {cells : α -> List Value} {x y : Operand} {t e : TypeId} {A : Option Addr} {p : Addr} {n c m cb size bytes : Nat} {xs : List Value} {l : List α} {z : Value} {hp' : Option Addr -> Nat -> List Res} (hd : Nat.blt d C.N = true)
  (hx : ev fr x = some (.slice A n c)) (hy : ev fr y = some (.slice (some p) m cb)) (ht : C.P.underlying t = some (.slice e)) (hi : TI C.P e z size bytes) (hzs : z.cells.size = size) (hs0 : Nat.blt 0 size = true) (hs : ∀ x, (cells x).length = size) (ho1 : ∀ x, ∀ u ∈ cells x, u.oneCell' = true)
  (hnews : ∀ a w, At C fr hp a w -> RdL cells size w (some p) l) (hl : l.length = m) [hr : InR A e size n c xs hp] [hu : ∀ A' c', UpR A e size n c xs (.row e size A' (n + m) c' (xs ++ l.flatMap cells)) hp (hp' A' c')]
  (h63 : n + m <= maxLen) (hbytes : (n + m) * bytes <= 140737488355328)
  (k : ∀ A' c', Lst C ops Q rest ((d, .slice A' (n + m) c') :: fr) (hp' A' c')) :
  Lst C ops Q (⟨some d, .call { callee := .builtin .append, args := #[x, y], argTypes := #[t, t] }, ty, pos, after, none⟩ :: rest) fr hp := by
 have ho : ∀ u ∈ l.flatMap cells, u.oneCell' = true := by
  intro u hu'
  obtain ⟨x, _, hx⟩ := List.mem_flatMap.1 hu'
  exact ho1 x u hx
 have hi' := hi
 obtain ⟨i, hi1, hi2, hi3, hi4⟩ := hi'
 have h0 := lt_of_blt hs0
 subst hi4
 refine lst_append_at hd hx hy ht hi hzs hs0 (fun a w ha j u hu => (hnews a w ha).cells_at hs h0 hu) (by rw [flatMap_len hs, hl]) ho (fun w v' w' hown hn hrun => ?_) h63 hbytes k
 exact append_place ht hi1 hi2 (hi3 ▸ hown) (by rw [flatMap_len hs, hi3, hl]) hn ho h63 hbytes hrun
end Go.Proofs.Yteppiphdbondeaa.N
namespace Go.Proofs.Yteppiphdbondeaa.N
open Go Go.RowKit Go.Proofs
set_option linter.unusedSectionVars false
theorem ncl_trans {a b c d e f : Nat} (h1 : cless a b c d = false) (h2 : cless c d e f = false) : cless a b e f = false := by
 unfold cless at *
 simp only [decide_eq_false_iff_not, not_or, not_and] at *
 omega
theorem ncl_refl (a b : Nat) : cless a b a b = false := by
 unfold cless
 simp
theorem ncl_of {a b c d : Nat} (h : cless a b c d = true) : cless c d a b = false := by
 unfold cless at *
 simp only [decide_eq_true_eq, decide_eq_false_iff_not, not_or, not_and] at *
 omega
theorem ncl_add {a b c d x y : Nat} : cless (a + x) (b + y) (c + x) (d + y) = cless a b c d := by
 unfold cless
 rw [decide_eq_decide]
 omega
theorem lst2_is (o x : Oc) : (lst2 o x).is = (o.is || x.is) := by
 unfold lst2 oless
 cases ho : o.is <;> cases hx : x.is <;> simp [ho, hx] <;> split <;> simp_all
theorem lst2_cases (o x : Oc) : lst2 o x = o ∨ lst2 o x = x ∧ x.is = true := by
 unfold lst2
 split
 ·rename_i h
  unfold oless at h
  exact .inr ⟨rfl, by simp at h; exact h.1⟩
 ·exact .inl rfl
theorem lst2_old {o x : Oc} (h : o.is = true) : cless o.f o.w (lst2 o x).f (lst2 o x).w = false := by
 unfold lst2
 split
 ·rename_i h2
  unfold oless at h2
  simp [h] at h2
  exact ncl_of h2.2
 ·exact ncl_refl ..
theorem lst2_new {o x : Oc} (h : x.is = true) : cless x.f x.w (lst2 o x).f (lst2 o x).w = false := by
 unfold lst2
 split
 ·exact ncl_refl ..
 ·rename_i h2
  unfold oless at h2
  simp [h] at h2
  exact h2.2
theorem fold_is (g : List Nat -> Oc) : ∀ (ls : List (List Nat)) (o : Oc), (ls.foldl (fun o l => lst2 o (g l)) o).is = (o.is || ls.any fun l => (g l).is)
 | [], o => by simp
 | l :: ls, o => by rw [List.foldl_cons, fold_is g ls, lst2_is, List.any_cons, Bool.or_assoc]
theorem fold_from (g : List Nat -> Oc) : ∀ (ls : List (List Nat)) (o : Oc), ls.foldl (fun o l => lst2 o (g l)) o = o ∨ ∃ l ∈ ls, (g l).is = true ∧ ls.foldl (fun o l => lst2 o (g l)) o = g l
 | [], o => .inl rfl
 | l :: ls, o => by
  rw [List.foldl_cons]
  rcases fold_from g ls (lst2 o (g l)) with h | ⟨x, hx, h1, h2⟩
  ·rw [h]
   rcases lst2_cases o (g l) with h | ⟨h, h3⟩
   ·exact .inl h
   ·exact .inr ⟨l, by simp, h3, h⟩
  ·exact .inr ⟨x, by simp [hx], h1, h2⟩
theorem fold_old (g : List Nat -> Oc) : ∀ (ls : List (List Nat)) (o : Oc), o.is = true -> cless o.f o.w (ls.foldl (fun o l => lst2 o (g l)) o).f (ls.foldl (fun o l => lst2 o (g l)) o).w = false
 | [], o, _ => ncl_refl ..
 | l :: ls, o, h => ncl_trans (lst2_old h) (fold_old g ls (lst2 o (g l)) (by rw [lst2_is, h]; rfl))
theorem fold_all (g : List Nat -> Oc) : ∀ (ls : List (List Nat)) (o : Oc) (l : List Nat), l ∈ ls -> (g l).is = true -> cless (g l).f (g l).w (ls.foldl (fun o l => lst2 o (g l)) o).f (ls.foldl (fun o l => lst2 o (g l)) o).w = false
 | l :: ls, o, x, hx, h => by
  rw [List.foldl_cons]
  rcases List.mem_cons.1 hx with rfl | hx
  ·exact ncl_trans (lst2_new h) (fold_old g ls _ (by rw [lst2_is, h]; simp))
  ·exact fold_all g ls _ x hx h
section
variable (alw : Nat -> List Nat -> Bool) (las : Mor -> Bool) (fs : List Flt) (kiln : Nat) (days : List Nat)
inductive Pth : Nat -> Mor -> List (List Nat) -> Nat -> Nat -> Prop
 | last {m : Mor} : las m = true -> Pth 0 m [] 0 0
 | day {n : Nat} {m m1 : Mor} {acts : List Nat} {p : List (List Nat)} {f w : Nat} : acts ∈ exts [] fs.length -> alw (days.length - (n + 1)) acts = true -> dayE fs kiln m acts (days.getD (days.length - (n + 1)) 0) = (0, m1) -> Pth n m1 p f w -> Pth (n + 1) m (acts :: p) (f + spF acts) (w + spW acts)
end
section
variable {alw : Nat -> List Nat -> Bool} {las : Mor -> Bool} {fs : List Flt} {kiln : Nat} {days : List Nat}
theorem stpO_is {rec : Mor -> Oc} {d : Nat} {m : Mor} {l : List Nat} (h : (stpO alw fs kiln days rec d m l).is = true) :
  alw d l = true ∧ ∃ m1, dayE fs kiln m l (days.getD d 0) = (0, m1) ∧ (rec m1).is = true ∧ stpO alw fs kiln days rec d m l = ⟨(rec m1).f + spF l, (rec m1).w + spW l, true⟩ := by
 unfold stpO at h ⊢
 split at h
 ·cases h
 ·rename_i h1
  split at h
  ·cases h
  ·rename_i h2
   rw [if_neg h1, if_neg h2]
   refine ⟨by simpa using h1, _, Prod.ext (by simpa using h2) rfl, h, ?_⟩
   dsimp only at h
   rw [h]
theorem stpO_of {rec : Mor -> Oc} {d : Nat} {m m1 : Mor} {l : List Nat} (h1 : alw d l = true) (h2 : dayE fs kiln m l (days.getD d 0) = (0, m1)) : stpO alw fs kiln days rec d m l = ⟨(rec m1).f + spF l, (rec m1).w + spW l, (rec m1).is⟩ := by
 unfold stpO
 rw [if_neg (by simp [h1]), if_neg (by rw [h2]; simp), h2]
theorem bst_path : ∀ (n : Nat) (m : Mor), (bstO alw las fs kiln days n m).is = true -> ∃ p, Pth alw las fs kiln days n m p (bstO alw las fs kiln days n m).f (bstO alw las fs kiln days n m).w
 | 0, m, h => ⟨[], .last h⟩
 | n + 1, m, h => by
  rcases fold_from (fun l => stpO alw fs kiln days (bstO alw las fs kiln days n) (days.length - (n + 1)) m l) (exts [] fs.length) noOc with e | ⟨l, hl, h1, e⟩
  ·have e' : bstO alw las fs kiln days (n + 1) m = noOc := e
   rw [e'] at h
   cases h
  ·have e' : bstO alw las fs kiln days (n + 1) m = stpO alw fs kiln days (bstO alw las fs kiln days n) (days.length - (n + 1)) m l := e
   obtain ⟨h2, m1, h3, h4, h5⟩ := stpO_is h1
   rw [e', h5]
   obtain ⟨p, hp⟩ := bst_path n m1 h4
   exact ⟨l :: p, .day hl h2 h3 hp⟩
theorem bst_least {n : Nat} {m : Mor} {p : List (List Nat)} {f w : Nat} (h : Pth alw las fs kiln days n m p f w) : (bstO alw las fs kiln days n m).is = true ∧ cless f w (bstO alw las fs kiln days n m).f (bstO alw las fs kiln days n m).w = false := by
 induction h with
 | last h => exact ⟨h, ncl_refl ..⟩
 | @day n m m1 acts p f w h1 h2 h3 h4 ih =>
  obtain ⟨i1, i2⟩ := ih
  have e := stpO_of (rec := bstO alw las fs kiln days n) h2 h3
  have his : (stpO alw fs kiln days (bstO alw las fs kiln days n) (days.length - (n + 1)) m acts).is = true := by rw [e]; exact i1
  constructor
  ·show ((exts [] fs.length).foldl (fun o l => lst2 o (stpO alw fs kiln days (bstO alw las fs kiln days n) (days.length - (n + 1)) m l)) noOc).is = true
   rw [fold_is, List.any_eq_true.2 ⟨acts, h1, his⟩, Bool.or_true]
  ·refine ncl_trans ?_ (fold_all (fun l => stpO alw fs kiln days (bstO alw las fs kiln days n) (days.length - (n + 1)) m l) (exts [] fs.length) noOc acts h1 his)
   rw [e]
   dsimp only
   rw [ncl_add]
   exact i2
def Wy (fs : List Flt) (kiln : Nat) : List Nat -> Mor -> Mor -> Prop
 | [], m, x => x = m
 | d :: ds, m, x => ∃ acts ∈ exts [] fs.length, ∃ m1, dayE fs kiln m acts d = (0, m1) ∧ Wy fs kiln ds m1 x
theorem fold_wy : ∀ (ds : List Nat) (S : Mor -> Prop) (x : Mor), ds.foldl (stp fs kiln) S x ↔ ∃ m, S m ∧ Wy fs kiln ds m x
 | [], S, x => ⟨fun h => ⟨x, h, rfl⟩, by rintro ⟨m, h, rfl⟩; exact h⟩
 | d :: ds, S, x => by
  rw [List.foldl_cons, fold_wy ds]
  constructor
  ·rintro ⟨m1, ⟨m, hm, acts, ha, h1⟩, h2⟩
   exact ⟨m, hm, acts, ha, m1, h1, h2⟩
  ·rintro ⟨m, hm, acts, ha, m1, h1, h2⟩
   exact ⟨m1, ⟨m, hm, acts, ha, h1⟩, h2⟩
theorem rch_wy {x : Mor} : Rch fs kiln days x ↔ Wy fs kiln days (start fs) x := by
 unfold Rch
 rw [fold_wy]
 constructor
 ·rintro ⟨m, rfl, h⟩; exact h
 ·intro h; exact ⟨_, rfl, h⟩
theorem drop_last {n : Nat} (h : n + 1 <= days.length) : days.drop (days.length - (n + 1)) = days.getD (days.length - (n + 1)) 0 :: days.drop (days.length - n) := by
 rw [List.drop_eq_getElem_cons om, List.getD_eq_getElem?_getD, List.getElem?_eq_getElem om, show days.length - (n + 1) + 1 = days.length - n from by omega]
 rfl
theorem pth_wy : ∀ (n : Nat), n <= days.length -> ∀ (m : Mor), (∃ p f w, Pth (fun _ _ => true) las fs kiln days n m p f w) ↔ ∃ x, Wy fs kiln (days.drop (days.length - n)) m x ∧ las x = true
 | 0, _, m => by
  rw [Nat.sub_zero, List.drop_length]
  constructor
  ·rintro ⟨p, f, w, h⟩
   cases h
   rename_i h
   exact ⟨m, rfl, h⟩
  ·rintro ⟨x, rfl, h⟩
   exact ⟨_, _, _, .last h⟩
 | n + 1, hn, m => by
  rw [drop_last hn]
  constructor
  ·rintro ⟨p, f, w, h⟩
   cases h
   rename_i m1 acts p f w h1 h2 h4 h3
   obtain ⟨x, hx, hl⟩ := (pth_wy n om m1).1 ⟨_, _, _, h4⟩
   exact ⟨x, ⟨acts, h1, m1, h3, hx⟩, hl⟩
  ·rintro ⟨x, ⟨acts, h1, m1, h3, hx⟩, hl⟩
   obtain ⟨p, f, w, h4⟩ := (pth_wy n om m1).2 ⟨x, hx, hl⟩
   exact ⟨_, _, _, .day h1 rfl h3 h4⟩
theorem bst_is_iff : (bstO (fun _ _ => true) las fs kiln days days.length (start fs)).is = true ↔ ∃ x, Rch fs kiln days x ∧ las x = true := by
 have h := pth_wy (las := las) (fs := fs) (kiln := kiln) (days := days) days.length (Nat.le_refl _) (start fs)
 rw [Nat.sub_self, List.drop_zero] at h
 constructor
 ·intro hb
  obtain ⟨p, hp⟩ := bst_path _ _ hb
  obtain ⟨x, h1, h2⟩ := h.1 ⟨_, _, _, hp⟩
  exact ⟨x, rch_wy.2 h1, h2⟩
 ·rintro ⟨x, h1, h2⟩
  obtain ⟨p, f, w, hp⟩ := h.2 ⟨x, rch_wy.1 h1, h2⟩
  exact (bst_least hp).1
theorem bstA_is : (bstA fs kiln days).is = true ↔ ∃ x, Rch fs kiln days x := by
 unfold bstA
 rw [bst_is_iff]
 simp
end
theorem Grew.less {w w' : World} {rs : List Res} (h : Grew w w' rs) : Grew w w' [] := ⟨h.1, fun _ h => by simp at h, by simp⟩
theorem flt_len (x : Flt) : x.cells.length = 4 := rfl
theorem flt_one (x : Flt) : ∀ u ∈ x.cells, u.oneCell' = true := by
 intro u hu
 simp [Flt.cells] at hu
 rcases hu with h | h | h | h <;> subst h <;> simp [Value.oneCell']
theorem n_one (x : Nat) : ∀ u ∈ ncell x, u.oneCell' = true := by
 intro u hu
 simp [ncell] at hu
 subst hu
 simp [Value.oneCell']
def oF (o : Oc) : Nat := if o.is then o.f else 0
def oE (o : Oc) : Nat := if o.is then 0 else 11
section
variable [I : Sys] {C : Ctx} {fr : List (Nat × Value)} {hp : List Res} {a : Act} {w : World}
theorem row_lendy (ha : At C fr hp a w) {A : Option Addr} {fs : List Flt} {n c : Nat} {xs : List Value} (hr : Res.row 49 4 A n c xs ∈ hp) : Lendy w A fs ∨ n = 0 := by
 have h := ha.own _ hr
 rcases h.2 with ⟨_, h2⟩ | ⟨g, cap, cur, hv, h1, h2, h3, _, h5, _⟩
 ·exact .inr h2
 ·rcases Nat.eq_zero_or_pos n with h0 | h0
  ·exact .inr h0
  ·injection hv with e1 _ _
   exact .inl fun _ => ⟨g, 0, none, _, _, e1, h2, by omega⟩
theorem row_lend (ha : At C fr hp a w) {A : Option Addr} {fs : List Flt} {n c : Nat} {xs : List Value} (hn : 0 < n) [hr : InR A 49 4 n c xs hp] : Lendy w A fs := (row_lendy ha hr.mem).resolve_right (by omega)
theorem row_cap (ha : At C fr hp a w) {A : Option Addr} {e size n c : Nat} {xs : List Value} [hr : InR A e size n c xs hp] : n <= c := by
 rcases (ha.own _ hr.mem).2 with ⟨h1, h2⟩ | ⟨g, cap, cur, hv, h1, h2, h3, _, h5, _⟩
 ·omega
 ·injection hv with _ _ e3
  omega
theorem row_days (ha : At C fr hp a w) {A : Option Addr} {c n : Nat} {l : List Nat} [hr : InR A 3 1 n c (ints l) hp] (hn : n = l.length) : RdL ncell 1 w A l :=
 row_reads ha (cells := ncell) (size := 1) (e := 3) (c := c) (n := n) (l := l) (fun _ => rfl) (by rw [<- ints_flat]; exact hr.mem) hn
theorem row_flts (ha : At C fr hp a w) {A : Option Addr} {c n : Nat} {l : List Flt} [hr : InR A 49 4 n c (l.flatMap Flt.cells) hp] (hn : n = l.length) : RdL Flt.cells 4 w A l :=
 row_reads ha (cells := Flt.cells) (size := 4) (e := 49) (c := c) (n := n) (l := l) (fun _ => rfl) hr.mem hn
theorem lst_capD {l : List Oper} {ops : Array Oper} {Q : Exit -> Act -> World -> Prop} (A : Option Addr) {e size n c : Nat} {xs : List Value} [hr : InR A e size n c xs hp] (k : n <= c -> Lst C ops Q l fr hp) : Lst C ops Q l fr hp := fun a w ha => k (row_cap (A := A) ha) a w ha
theorem FewestN_c {fA dA : Option Addr} {fc dc kiln : Nat} {fs : List Flt} {days : List Nat} (hc : ChV fs kiln days) (w : World) (hF : RdL Flt.cells 4 w fA fs) (hD : RdL ncell 1 w dA days) :
  Calls Try.prog 15 #[.agg (CA fA fs.length fc kiln dA days.length dc).toArray] w fun e w' => ∃ (oA : Option Addr) (on oc : Nat), e = .returned (.tuple #[.slice oA on oc, .int .i64 ((oF (bstA fs kiln days) : Nat) : Int), .int .i64 ((oE (bstA fs kiln days) : Nat) : Int)]) ∧ Grew w w' [] := by
 refine (Fewest_c hc w hF hD).mono ?_
 rintro e w' ⟨oA, oc, mr, hcase, hg⟩
 rcases hcase with ⟨h1, _, h3⟩ | ⟨h1, _, h3⟩
 ·exact ⟨oA, mr.length, oc, by rw [h3]; simp [oF, oE, h1], hg.less⟩
 ·exact ⟨none, 0, 0, by rw [h3]; simp [oF, oE, h1], hg.less⟩
end
theorem ChV.take {fs : List Flt} {kiln k : Nat} {days : List Nat} (h : ChV fs kiln days) (hk : 1 <= k) : ChV fs kiln (days.take k) :=
 ⟨h.f1, h.f3, h.ff, h.k3, by have := h.d1; rw [List.length_take]; omega, by have := h.d4; rw [List.length_take]; omega, fun n hn => h.dd n (List.mem_of_mem_take hn)⟩
theorem fails_is {fs : List Flt} {kiln : Nat} {days : List Nat} {E : Nat -> Prop} {N : Prop} (h : (∃ d, d < days.length ∧ (∀ j, j < d -> ∃ m, Rch fs kiln (days.take (j + 1)) m) ∧ (∀ m, ¬ Rch fs kiln (days.take (d + 1)) m) ∧ E d) ∨ ((∀ j, j < days.length -> ∃ m, Rch fs kiln (days.take (j + 1)) m) ∧ N)) :
  ∃ d, d <= days.length ∧ (∀ j, j < d -> (bstA fs kiln (days.take (j + 1))).is = true) ∧ (d < days.length -> (bstA fs kiln (days.take (d + 1))).is = false ∧ E d) ∧ (d = days.length -> N) := by
 rcases h with ⟨d, h1, h2, h3, h4⟩ | ⟨h1, h2⟩
 ·refine ⟨d, Nat.le_of_lt h1, fun j hj => bstA_is.2 (h2 j hj), fun _ => ⟨?_, h4⟩, fun h => by omega⟩
  cases hb : (bstA fs kiln (days.take (d + 1))).is with
  | false => rfl
  | true =>
   obtain ⟨m, hm⟩ := bstA_is.1 hb
   exact absurd hm (h3 m)
 ·exact ⟨days.length, Nat.le_refl _, fun j hj => bstA_is.2 (h1 j hj), fun h => by omega, fun _ => h2⟩
end Go.Proofs.Yteppiphdbondeaa.N
namespace Go.Proofs.Yteppiphdbondeaa.N
open Go Go.RowKit Go.Proofs
set_option linter.unusedSectionVars false
variable [I : Sys]
theorem F.ent57 : Enters Try.prog 57 := enters_of Try.func57 rfl (by kernel_rfl)
theorem DupInts_c {α : Type} {cells : α -> List Value} (hs : ∀ x, (cells x).length = 1) (ho : ∀ x, ∀ u ∈ cells x, u.oneCell' = true) (p : Addr) (c : Nat) (l : List α) (hl : l.length <= 400000) (w : World) (hA : RdL cells 1 w (some p) l) : Calls Try.prog 57 #[.slice (some p) l.length c] w fun e w' => ∃ A' c', e = .returned (.slice A' l.length c') ∧ Grew w w' [.row 3 1 A' l.length c' (l.flatMap cells)] := by
 refine enter (N := 6) [(0, .slice (some p) l.length c)] Try.func57 rfl Try.ntmps57 rfl rfl ?_
 refine cod_seq (cod_region (lst_assign rfl rfl (lst_nil (ex_then (cod_seq (cod_region (lst_lit0 rfl Try.underlying22 F.ti3 ?_)))))))
 intro b3
 refine lst_as_row 1 (.head _) ?_
 refine lst_move rfl rfl (lst_append_cells (cells := cells) rfl rfl rfl Try.underlying22 F.ti3 rfl rfl hs ho (fun a w ha => hA.later ha.below) rfl (by unfold maxLen; omega) om ?_)
 intro A1 c1
 refine lst_assign rfl rfl (lst_nil (ex_then (cod_ret ?_)))
 simp only [Nat.zero_add, List.nil_append]
 exact ex_ret rfl (fun a w ha => res_one rfl rfl ha) (fun a w ha => ⟨A1, c1, rfl, ha.grown sbl⟩)

theorem dupc_some {α β : Type} {cf : α -> List Value} {cd : β -> List Value} (hs4 : ∀ x, (cf x).length = 4) (ho4 : ∀ x, ∀ u ∈ cf x, u.oneCell' = true) (hs1 : ∀ x, (cd x).length = 1) (ho1 : ∀ x, ∀ u ∈ cd x, u.oneCell' = true) (fp dp : Addr) (fc dc : Nat) (kz : Int) (fs : List α) (days : List β) (hfl : fs.length <= 400000) (hdl : days.length <= 400000) (w : World) (hF : RdL cf 4 w (some fp) fs) (hD : RdL cd 1 w (some dp) days) : Calls Try.prog 24 #[.agg [.slice (some fp) fs.length fc, .int .i64 kz, .slice (some dp) days.length dc].toArray] w fun e w' => ∃ A c D dc', e = .returned (.agg [.slice A fs.length c, .int .i64 kz, .slice D days.length dc'].toArray) ∧ Grew w w' [.row 49 4 A fs.length c (fs.flatMap cf), .row 3 1 D days.length dc' (days.flatMap cd)] := by
 refine enter (N := 13) [(0, .agg [.slice (some fp) fs.length fc, .int .i64 kz, .slice (some dp) days.length dc].toArray)] Try.func24 rfl Try.ntmps24 rfl rfl ?_
 refine cod_seq (cod_region (lst_box rfl rfl ?_))
 intro b1
 refine lst_alloc rfl F.ti27 ?_
 intro b2
 refine lst_nil (ex_then (cod_seq (any_begin [.b b2] F.follows 11 rfl [false, false, false, false, false, false, false, false, false, false, false] rfl ?_)))
 refine any_tk 1 rfl rfl rfl (yld_field_z rfl F.fi27_0 F.ti25) ?_
 refine any_tk 2 rfl rfl rfl (yld_load rfl F.one25) ?_
 refine any_tk 4 rfl rfl rfl (yld_field_z rfl F.fi27_1 F.ti3) ?_
 refine any_tk 5 rfl rfl rfl (yld_load rfl F.one3) ?_
 refine any_tk 6 rfl rfl rfl (yld_field_z rfl F.fi27_2 F.ti22) ?_
 refine any_tk 7 rfl rfl rfl (yld_load rfl F.one22) ?_
 refine an1 0 rfl ?_
 refine lst_lit0 rfl Try.underlying25 F.ti49 ?_
 intro b3
 refine lst_as_row 4 (.head _) ?_
 refine lst_nil (anb (an1 3 rfl ?_))
 refine lst_append_cells (cells := cf) rfl rfl rfl Try.underlying25 F.ti49 rfl rfl hs4 ho4 (fun a w ha => hF.later ha.below) rfl (by unfold maxLen; omega) om ?_
 intro A2 c2
 simp only [Nat.zero_add, List.nil_append]
 refine lst_nil (anb (an1 8 rfl ?_))
 refine lst_fn (X := Option Addr × Nat) (vs := [_]) (p := fun _ => True) (val := fun y => .slice y.1 days.length y.2) (rs := fun y => [.row 3 1 y.1 days.length y.2 (days.flatMap cd)]) rfl rfl F.ent57 (fun a w ha => (DupInts_c hs1 ho1 dp dc days hdl w (hD.later ha.below)).mono (fun e w' h => by obtain ⟨A', c', h1, h2⟩ := h; exact ⟨(A', c'), trivial, h1, h2⟩)) ?_
 rintro ⟨A3, c3⟩ -
 dsimp only [List.cons_append, List.nil_append]
 refine lst_nil (anb (any_tk 9 rfl rfl rfl (yld_struct (vs := [(0, _), (1, _), (2, _)]) (l' := [_, _, _]) rfl F.ti27 F.pl27 (.cons rfl rfl (.cons rfl rfl (.cons rfl rfl (.nil _)))) rfl) ?_))
 refine an1 10 rfl ?_
 refine lst_store rfl rfl F.ti27 rfl ?_
 refine lst_nil (anb (adn (ex_then (cod_ret ?_))))
 exact ex_ret rfl (fun a w ha => by exact res_cellN (ha := ha) rfl rfl F.agg27 F.ti27 rfl) (fun a w ha => ⟨A2, c2, A3, c3, rfl, (ha.pck pkk).grown (List.Sublist.refl _)⟩)

theorem DupChar_c {fA dA : Option Addr} {fc dc kiln : Nat} {fs : List Flt} {days : List Nat} (hf1 : 1 <= fs.length) (hf3 : fs.length <= 1000) (hd1 : 1 <= days.length) (hd4 : days.length <= 1000) (w : World) (hF : RdL Flt.cells 4 w fA fs) (hD : RdL ncell 1 w dA days) :
  Calls Try.prog 24 #[.agg (CA fA fs.length fc kiln dA days.length dc).toArray] w fun e w' => ∃ A c D dc', e = .returned (.agg [.slice A fs.length c, .int .i64 (kiln : Int), .slice D days.length dc'].toArray) ∧ Grew w w' [.row 49 4 A fs.length c (fs.flatMap Flt.cells), .row 3 1 D days.length dc' (ints days)] := by
 obtain ⟨fb, fo, rfl, _, _⟩ := hF om
 obtain ⟨db, d_o, rfl, _, _⟩ := hD om
 have h := dupc_some flt_len flt_one (fun _ => rfl) n_one ⟨fb, fo, none⟩ ⟨db, d_o, none⟩ fc dc (kiln : Int) fs days om om w hF hD
 rw [<- ints_flat] at h
 exact h

theorem can_c {fA dA : Option Addr} {fc dc kiln : Nat} {fs : List Flt} {days : List Nat} (hc : ChV fs kiln days) (w : World) (hF : RdL Flt.cells 4 w fA fs) (hD : RdL ncell 1 w dA days) : Calls Try.prog 25 #[.agg (CA fA fs.length fc kiln dA days.length dc).toArray] w fun e w' => e = .returned (.tuple #[.bool (bstA fs kiln days).is, .bool true]) ∧ Grew w w' [] := by
 refine enter (N := 21) [(0, .agg (CA fA fs.length fc kiln dA days.length dc).toArray)] Try.func25 rfl Try.ntmps25 rfl rfl ?_
 refine cod_seq (cod_region (lst_box rfl rfl ?_))
 intro b1
 refine lst_assign rfl rfl (lst_assign rfl rfl (lst_nil (ex_then (cod_seq ?_))))
 rcases his : (bstA fs kiln days).is with _ | _
 ·refine cod_region (lst_loadN rfl rfl F.agg27 F.ti27 ?_)
  refine lst_fn (X := Option Addr × Nat × Nat) (vs := [_]) (p := fun _ => True) (val := fun g => .tuple #[.slice g.1 g.2.1 g.2.2, .int .i64 ((oF (bstA fs kiln days) : Nat) : Int), .int .i64 ((oE (bstA fs kiln days) : Nat) : Int)]) (rs := fun g => []) rfl rfl F.ent15 (fun a w ha => (FewestN_c hc w (hF.later ha.below) (hD.later ha.below)).mono (fun e w' h => by obtain ⟨oA, on, oc, h1, h2⟩ := h; exact ⟨(oA, on, oc), trivial, h1, h2⟩)) ?_
  rintro ⟨oA, on, oc⟩ -
  dsimp only [List.nil_append]
  rw [show oE (bstA fs kiln days) = 11 from by simp [oE, his]]
  refine lst_move rfl rfl (lst_extract rfl rfl rfl (lst_extract rfl rfl rfl (lst_extract rfl rfl rfl (lst_assign rfl rfl (lst_assign rfl rfl (lst_assign rfl rfl (lst_nil (ex_then (cod_seq (cod_region (lst_move rfl rfl (lst_int rfl rfl rfl bin_eql ?_))))))))))))
  refine lst_move rfl rfl (lst_int rfl rfl rfl bin_eql ?_)
  refine lst_move rfl rfl (lst_on rfl rfl (lst_move rfl rfl (lst_on rfl rfl (lst_int rfl rfl rfl bin_eql ?_))))
  refine lst_pick_false rfl rfl rfl (lst_assign rfl rfl (lst_assign rfl rfl (lst_nil (ex_then (cod_ret ?_)))))
  exact ex_ret rfl (fun a w ha => res_two rfl rfl rfl ha) (fun a w ha => ⟨by rfl, ha.grown nsl⟩)
 ·refine cod_region (lst_loadN rfl rfl F.agg27 F.ti27 ?_)
  refine lst_fn (X := Option Addr × Nat × Nat) (vs := [_]) (p := fun _ => True) (val := fun g => .tuple #[.slice g.1 g.2.1 g.2.2, .int .i64 ((oF (bstA fs kiln days) : Nat) : Int), .int .i64 ((oE (bstA fs kiln days) : Nat) : Int)]) (rs := fun g => []) rfl rfl F.ent15 (fun a w ha => (FewestN_c hc w (hF.later ha.below) (hD.later ha.below)).mono (fun e w' h => by obtain ⟨oA, on, oc, h1, h2⟩ := h; exact ⟨(oA, on, oc), trivial, h1, h2⟩)) ?_
  rintro ⟨oA, on, oc⟩ -
  dsimp only [List.nil_append]
  rw [show oE (bstA fs kiln days) = 0 from by simp [oE, his]]
  refine lst_move rfl rfl (lst_extract rfl rfl rfl (lst_extract rfl rfl rfl (lst_extract rfl rfl rfl (lst_assign rfl rfl (lst_assign rfl rfl (lst_assign rfl rfl (lst_nil (ex_then (cod_seq (cod_region (lst_move rfl rfl (lst_int rfl rfl rfl bin_eql ?_))))))))))))
  refine lst_move rfl rfl (lst_int rfl rfl rfl bin_eql ?_)
  refine lst_move rfl rfl (lst_off rfl rfl rfl (lst_off rfl rfl rfl (lst_pick_true rfl rfl rfl (lst_assign rfl rfl (lst_assign rfl rfl (lst_nil (ex_then (cod_ret ?_))))))))
  exact ex_ret rfl (fun a w ha => res_two rfl rfl rfl ha) (fun a w ha => ⟨by rfl, ha.grown nsl⟩)

theorem F.ent13 : Enters Try.prog 13 := enters_of Try.func13 rfl (by kernel_rfl)
theorem F.ent20 : Enters Try.prog 20 := enters_of Try.func20 rfl (by kernel_rfl)
theorem F.ent22 : Enters Try.prog 22 := enters_of Try.func22 rfl (by kernel_rfl)
theorem F.ent24 : Enters Try.prog 24 := enters_of Try.func24 rfl (by kernel_rfl)
theorem F.ent25 : Enters Try.prog 25 := enters_of Try.func25 rfl (by kernel_rfl)
theorem CharFirst_c [R : ReaC] (nA : Option Addr) (nc : Nat) (nums : List Int) (w : World) (hN : RdL icell 1 w nA nums) (hR : RdC w) : Calls Try.prog 4 #[.slice nA nums.length nc] w fun e w' => e = .returned (.bool true) ∧ Grew w w' [] := by
 refine enter (N := 61) [(0, .slice nA nums.length nc)] Try.func4 rfl Try.ntmps4 rfl rfl ?_
 refine cod_seq (cod_region (lst_assign rfl rfl (lst_nil (ex_then (cod_seq (cod_region (lst_move rfl rfl (lst_fn (X := Nat) (vs := [_]) (p := fun _ => True) (val := fun b => .pointer (some ⟨b, 0, none⟩)) (rs := fun b => [.blk b (hatO nA nums.length nc 0 11400714819323198485)]) rfl rfl F.ent13 (fun a w ha => (NewHat_c nA nums.length nc w).mono (fun e w' h => by obtain ⟨b, h1, h2⟩ := h; exact ⟨b, trivial, h1, h2⟩)) ?_))))))))
 intro hb _
 dsimp only [List.cons_append, List.nil_append]
 refine lst_call (X := Nat × Nat × Nat × List Flt × List Nat × Option Addr × Option Addr × Nat × Nat) (first := []) (cap := []) (vs := [_]) (p := fun y => y.1 <= 101 ∧ y.2.1 < 18446744073709551616 ∧ ChV y.2.2.2.1 y.2.2.1 y.2.2.2.2.1) (val := fun y => .agg [.slice y.2.2.2.2.2.1 y.2.2.2.1.length y.2.2.2.2.2.2.2.1, .int .i64 (y.2.2.1 : Int), .slice y.2.2.2.2.2.2.1 y.2.2.2.2.1.length y.2.2.2.2.2.2.2.2].toArray) (rs := fun y => [.row 49 4 y.2.2.2.2.2.1 y.2.2.2.1.length y.2.2.2.2.2.2.2.1 (y.2.2.2.1.flatMap Flt.cells), .row 3 1 y.2.2.2.2.2.2.1 y.2.2.2.2.1.length y.2.2.2.2.2.2.2.2 (ints y.2.2.2.2.1), .blk hb (hatO nA nums.length nc y.1 y.2.1)]) rfl rfl rfl F.ent22 (fun a w ha => (made_c (C := ⟨Try.prog, _, _, _, _⟩) (T := []) (tk := 0) rfl rfl hN om om ha).mono (fun e w' h => by obtain ⟨t', s', k', f', d', A', D', c', dc', h1, h2, h3, h4, h5⟩ := h; exact ⟨(t', s', k', f', d', A', D', c', dc'), ⟨by omega, h2, h3⟩, h4, h5⟩)) ?_
 rintro ⟨tk, st, kiln, fs, days, A, D, c, dc⟩ ⟨htk, hst, hc⟩
 dsimp only at htk hst hc ⊢
 refine lst_alloc rfl F.ti27 ?_
 intro b3
 refine lst_store rfl rfl F.ti27 rfl ?_
 refine lst_nil (ex_then (cod_seq (cod_region (lst_capD D ?_))))
 intro hcap
 have hf1 := hc.f1
 refine lst_loadN rfl rfl F.agg27 F.ti27 ?_
 refine lst_fn (X := Nat) (vs := [_]) (p := fun d => d <= days.length ∧ (∀ j, j < d -> (bstA fs kiln (days.take (j + 1))).is = true) ∧ (d < days.length -> (bstA fs kiln (days.take (d + 1))).is = false)) (val := fun d => .tuple #[.int .i64 ((if d < days.length then d else 0 : Nat) : Int), .int .i64 ((if d < days.length then 0 else 11 : Nat) : Int)]) (rs := fun _ => []) rfl rfl F.ent23 (fun a w ha => (Fails_c hc hcap w (hR.later ha.below) (row_lend (A := A) ha hf1) (row_flts (A := A) ha rfl) (row_days (A := D) ha rfl)).mono (fun e w' h => ?_)) ?_
 ·obtain ⟨d, h1, h2, h3, h4⟩ := fails_is (E := fun d => e = .returned (.tuple #[.int .i64 (d : Int), .int .i64 0])) h.1
  refine ⟨d, ⟨h1, h2, fun hl => (h3 hl).1⟩, ?_, h.2⟩
  by_cases hl : d < days.length
  ·rw [if_pos hl, if_pos hl]; exact (h3 hl).2
  ·rw [if_neg hl, if_neg hl]; exact h4 om
 rintro d ⟨hd1, hd2, hd3⟩
 dsimp only [List.nil_append] at hd1 hd2 hd3 ⊢
 refine lst_move rfl rfl (lst_extract rfl rfl rfl (lst_extract rfl rfl rfl (lst_assign rfl rfl (lst_assign rfl rfl (lst_nil (ex_then (cod_seq (cod_seq (cod_region (lst_assign rfl rfl (lst_nil (ex_then (cod_block (cod_loop' (G := Nat) (fun k => k <= days.length ∧ k <= d) (fun k => days.length - k) (fun k => [(3, .pointer (some ⟨b3, 0, none⟩)), (4, .int .i64 ((if d < days.length then d else 0 : Nat) : Int)), (5, .int .i64 ((if d < days.length then 0 else 11 : Nat) : Int)), (6, .int .i64 (k : Int))]) (fun k => [.blk b3 (.cells [.slice A fs.length c, .int .i64 (kiln : Int), .slice D days.length dc].toArray 27 (0, 0)), .row 49 4 A fs.length c (fs.flatMap Flt.cells), .row 3 1 D days.length dc (ints days)]) 0 ⟨Nat.zero_le _, Nat.zero_le _⟩ sbn pkk ?_))))))))))))))
 rintro k ⟨hk1, hk2⟩
 refine cod_seq (cod_seq (cod_region (lst_move rfl rfl (lst_field_z rfl rfl F.fi27_2 F.ti22 ?_))))
 refine lst_load rfl rfl F.one22 ?_
 refine lst_len rfl rfl Try.underlying22 ?_
 refine lst_int rfl rfl rfl bin_lss ?_
 refine lst_nil (ex_then (cod_cond_dec rfl (fun hc0 => ?_) (fun hc0 => ?_)))
 ·have hk : k < days.length := by omega
  have hd4 := hc.d4
  refine cod_skip (ex_then (cod_seq (cod_block (cod_seq (cod_region (lst_loadN rfl rfl F.agg27 F.ti27 ?_))))))
  refine lst_fn (X := Option Addr × Nat × Option Addr × Nat) (vs := [_]) (p := fun _ => True) (val := fun g => .agg [.slice g.1 fs.length g.2.1, .int .i64 (kiln : Int), .slice g.2.2.1 days.length g.2.2.2].toArray) (rs := fun g => [.row 49 4 g.1 fs.length g.2.1 (fs.flatMap Flt.cells), .row 3 1 g.2.2.1 days.length g.2.2.2 (ints days)]) rfl rfl F.ent24 (fun a w ha => (DupChar_c hc.f1 (by have := hc.f3; omega) hc.d1 (by have := hc.d4; omega) w (row_flts (A := A) ha rfl) (row_days (A := D) ha rfl)).mono (fun e w' h => by obtain ⟨A', c', D', dc', h1, h2⟩ := h; exact ⟨(A', c', D', dc'), trivial, h1, h2⟩)) ?_
  rintro ⟨A2, c2, D2, dc2⟩ -
  dsimp only [List.cons_append, List.nil_append]
  refine lst_alloc rfl F.ti27 ?_
  intro b7
  refine lst_store rfl rfl F.ti27 rfl ?_
  refine lst_nil (ex_then (cod_seq (cod_region (lst_capD D2 ?_))))
  intro hcap2
  refine lst_field_z rfl rfl F.fi27_2 F.ti22 ?_
  refine lst_load rfl rfl F.one22 ?_
  refine lst_move rfl rfl (lst_int rfl rfl rfl (fun w => bin_add w (wrap_i64' _ om om)) ?_)
  refine lst_slice_h (h := k + 1) rfl rfl rfl Try.underlying22 F.ti3 rfl om ?_
  refine lst_field_z rfl rfl F.fi27_2 F.ti22 ?_
  refine lst_store rfl rfl F.ti22 rfl ?_
  refine lst_nil (ex_then (cod_seq ?_))
  have hlen : (days.take (k + 1)).length = k + 1 := by rw [List.length_take]; omega
  rcases his : (bstA fs kiln (days.take (k + 1))).is with _ | _
  ·refine cod_region (lst_loadN rfl rfl F.agg27 F.ti27 ?_)
   refine lst_fn0 (v := .tuple #[.bool (bstA fs kiln (days.take (k + 1))).is, .bool true]) (vs := [_]) rfl rfl F.ent25 (fun a w ha => ?_) ?_
   ·have h := can_c (dA := D2) (dc := dc2) (fc := c2) (hc.take (k := k + 1) om) w (row_flts (A := A2) ha rfl) ((row_days (A := D2) ha rfl).take (k + 1))
    rw [hlen] at h
    exact h
   rw [his]
   refine lst_move rfl rfl (lst_extract rfl rfl rfl (lst_extract rfl rfl rfl (lst_assign rfl rfl (lst_assign rfl rfl (lst_nil (ex_then (cod_seq (cod_seq (cod_region (lst_move rfl rfl (lst_not rfl rfl (lst_nil (ex_then (cod_cond_false rfl (cod_skip (ex_then (cod_seq (cod_region (lst_move rfl rfl (lst_not rfl rfl (lst_nil (ex_then (cod_cond_true rfl ?_)))))))))))))))))))))))
   refine cod_seq (cod_region ?_)
   have hdk : d = k := by
    rcases Nat.lt_or_ge k d with h | h
    ·rw [hd2 k h] at his; cases his
    ·omega
   subst hdk
   rw [if_pos hk, if_pos hk]
   refine lst_move rfl rfl (lst_int (v := .bool true) rfl rfl rfl (fun w => by rw [bin_eql, decide_eq_true (by rfl)]) ?_)
   refine lst_move rfl rfl (lst_on rfl rfl (lst_move rfl rfl (lst_on rfl rfl (lst_move rfl rfl (lst_on rfl rfl (lst_int (v := .bool true) rfl rfl rfl (fun w => by rw [bin_eql, decide_eq_true (by rfl)]) ?_))))))
   refine lst_pick_true rfl rfl rfl (lst_move rfl rfl (lst_on rfl rfl (lst_fn0 (v := .bool true) (vs := []) rfl rfl F.ent20 (fun a w ha => cleared_c w (hR.later ha.below)) ?_)))
   refine lst_pick_true rfl rfl rfl (lst_assign rfl rfl (lst_nil (ex_then (cod_ret (ex_block_ret (ex_then_ret (ex_then_ret (ex_block_ret (ex_then_ret ?_)))))))))
   exact ex_ret rfl (fun a w ha => res_one rfl rfl ha) (fun a w ha => ⟨rfl, ha.grown nsl⟩)
  ·refine cod_region (lst_loadN rfl rfl F.agg27 F.ti27 ?_)
   refine lst_fn0 (v := .tuple #[.bool (bstA fs kiln (days.take (k + 1))).is, .bool true]) (vs := [_]) rfl rfl F.ent25 (fun a w ha => ?_) ?_
   ·have h := can_c (dA := D2) (dc := dc2) (fc := c2) (hc.take (k := k + 1) om) w (row_flts (A := A2) ha rfl) ((row_days (A := D2) ha rfl).take (k + 1))
    rw [hlen] at h
    exact h
   rw [his]
   refine lst_move rfl rfl (lst_extract rfl rfl rfl (lst_extract rfl rfl rfl (lst_assign rfl rfl (lst_assign rfl rfl (lst_nil (ex_then (cod_seq (cod_seq (cod_region (lst_move rfl rfl (lst_not rfl rfl (lst_nil (ex_then (cod_cond_false rfl (cod_skip (ex_then (cod_seq (cod_region (lst_move rfl rfl (lst_not rfl rfl (lst_nil (ex_then (cod_cond_false rfl ?_)))))))))))))))))))))))
   refine cod_skip (ex_block_normal (ex_then (cod_region (lst_move rfl rfl (lst_int rfl rfl rfl (fun w => bin_add w (wrap_i64' _ om om)) ?_)))))
   refine lst_assign rfl rfl (lst_nil (ex_round' (k + 1) ⟨by omega, ?_⟩ tdo sbn pkk))
   rcases Nat.lt_or_ge k d with h | h
   ·exact h
   ·have h9 := hd3 om
    rw [show d = k from by omega, his] at h9
    cases h9
 ·refine cod_exit (ex_then_exit (ex_then_exit (ex_block_exit (ex_then (cod_seq (cod_region ?_))))))
  obtain rfl : d = days.length := by omega
  rw [if_neg (Nat.lt_irrefl _), if_neg (Nat.lt_irrefl _)]
  refine lst_move rfl rfl (lst_int (v := .bool true) rfl rfl rfl (fun w => by rw [bin_eql, decide_eq_true (by rfl)]) ?_)
  refine lst_move rfl rfl (lst_on rfl rfl (lst_move rfl rfl (lst_on rfl rfl (lst_int (v := .bool true) rfl rfl rfl (fun w => by rw [bin_eql, decide_eq_true (by rfl)]) ?_))))
  refine lst_pick_true rfl rfl rfl (lst_move rfl rfl (lst_on rfl rfl (lst_fn0 (v := .bool true) (vs := []) rfl rfl F.ent20 (fun a w ha => cleared_c w (hR.later ha.below)) ?_)))
  refine lst_pick_true rfl rfl rfl (lst_assign rfl rfl (lst_nil (ex_then (cod_ret ?_))))
  exact ex_ret rfl (fun a w ha => res_one rfl rfl ha) (fun a w ha => ⟨rfl, ha.grown nsl⟩)

end Go.Proofs.Yteppiphdbondeaa.N
namespace Go.Proofs.Yteppiphdbondeaa.N
open Go Go.RowKit Go.Conc
set_option linter.unusedSectionVars false

def seenZ (W : World) : World := { seenW W with output := gout [0] }
theorem hid_seenZ (W : World) : Hid (Viewed W) (fun _ => False) W (seenZ W) := by
 have h := hid_seenW W
 exact ⟨h.1, h.2, h.3, h.4, h.5, h.6, h.7, h.8, h.9, h.10⟩
theorem cell_seenZ {W : World} {p : Addr} {u : Value} (h : W.cell? p = some u) : (seenZ W).cell? p = some u := cell_seenW h
section
variable {P : Program} {W : World} {f : FuncId} {args : Array Value} {Post : Value -> World -> Prop}
theorem below_realZ {F : Nat -> Prop} {w w' v' : World} (hk : Kept F (fun _ => False) w w') (hv : Hid F (fun _ => False) w' v') (hb : Bas W (Viewed W) (fun i => i = 0) (fun _ => F) w) (hv0 : Below (seenZ W).heap.size (seenZ W) v') : Below W.heap.size W w' := by
 refine ⟨hk.os.trans hb.os, hk.tape.trans hb.tape, hk.output.trans hb.output, Nat.le_trans hb.size hk.size, fun b hlt => ?_⟩
 by_cases hF : F b
 ·rw [hk.block b (Nat.lt_of_lt_of_le hlt hb.size) (.inl hF)]
  exact (hb.held b (hb.new b hlt hF)).2.1
 ·rw [<- hv.same b hF (fun x => x), hv0.block b (by simpa [seenZ, seenW] using hlt)]
  show (seenW W).heap[b]? = _
  rw [heap_seenW]
  cases h : W.heap[b]? with
  | none => rfl
  | some o =>
   cases o with
   | view p t => exact absurd ((hb.held b ⟨p, t, h⟩).2.2 0 rfl) hF
   | _ => rfl
def sig0 : Cst := ⟨0, 0, 0, [], 0, false, false, false, 0, 0, .rest, [], [], fun _ => none, []⟩
theorem sig0_blank : sig0.blank := ⟨fun _ => rfl, rfl, rfl, rfl, rfl, rfl, rfl, rfl, rfl⟩
theorem sig0_ok (low : Nat) : Cok low sig0 := by
 refine ⟨List.nodup_nil, rfl, fun j => ?_, fun j p h => (by cases h), fun b hb => (by cases hb), fun h => (by cases h), fun h => (by cases h), fun h => (by cases h), by decide, rfl, .nil, sig0_blank⟩
 constructor
 ·intro h; cases h
 ·rintro ⟨p, h⟩; cases h
theorem rest_of {low : Nat} {tW : TypeId} {msg : Nat -> Value} {σ : Cst} (hok : Cok low σ) (h : σ.gh 0 = some [0]) : Alone (Cp low tW msg) σ ∧ σ.lent = [] ∧ ∀ c, ¬ (Cst.ts σ).Ca c := by
 rw [gh_zero] at h
 have hp := hok.phase
 cases hm : σ.mn <;> rw [hm] at h <;> simp [Mn.enc] at h
 unfold Cst.phase at hp
 rw [hm] at hp
 obtain ⟨h1, h2, h3, h4, h5, h6, h7, h8, h9⟩ := hp
 refine ⟨?_, h9, fun c hc => ?_⟩
 ·refine ⟨fun j hj => gh_isSome hj h1, ?_⟩
  show (Cst.ts σ).D 0 = 0
  simp [Cst.ts, hm, Mn.deaf]
 ·rcases hc with ⟨h, _⟩ | ⟨h, _⟩ <;> omega
theorem runs_of_viewsZ {low : Nat} {tW : TypeId} {msg : Nat -> Value} (hK : low = W.heap.size) (noInit : P.inits.idxOf? f = none)
  (h : @Calls P (zSys P (Cp low tW msg)) f args (seenZ W) fun e v' => ∃ x, e = .returned x ∧ Below (seenZ W).heap.size (seenZ W) v' ∧ ∀ W', Below W.heap.size W W' -> Post x W') :
  ∃ N last o w' t', runNT P (N + 1) (solo (G (Frame.enter P f args .normal) []) W) #[] = (.ended o w', t') ∧ runN P N (solo (G (Frame.enter P f args .normal) []) W) = .next last ∧ step P last = .ended o w' ∧ Go.Conc.Good P Post last o w' t' := by
 refine n_ends (K := Cp low tW msg) (σ := sig0) (γ := [0]) cp_laws hK (hid_seenZ W) rfl (sig0_ok low) rfl (fun j hj => gh_none hj rfl) (fun b hb => (by cases hb)) rfl rfl (@Gs.mono P (zSys P (Cp low tW msg)) _ _ _ _ (h []) fun g v' hs => ?_)
 obtain ⟨e, fr, v₀, ⟨x, rfl, hb, hp⟩, hr, rfl, hfn, hm, hd, hkd, fn, hf, ht, hres⟩ := hs
 have hb' : Below (seenZ W).heap.size (seenZ W) v' := hb.trans (hr.mono hb.size)
 refine ⟨rfl, ⟨[0], hb'.output, fun σ hok hg => rest_of hok hg⟩, fun F w hv hbas => ?_⟩
 obtain ⟨w', h1, h2, h3, h4, h5⟩ := ht.ok (hres v' (Rl.refl v')) hv
 have hno : P.inits.idxOf? fr.fn = none := by rw [hfn]; exact noInit
 refine ⟨x, w', seen P fr.fn ((results fn fr.tmps).events P v' #[]), ?_, ?_, hp w' (below_realZ h4 h3 hbas hb')⟩
 ·rw [<- h2]
  simp [G, stepG, unwind, doReturn, hm, hd, hkd, hf, h1, hno, GStep.after]
 ·rw [<- hv.size]
  exact fun e he => h5 e (Go.Conc.mem_seen he)
end
theorem returnsInLeavingWide_of_viewsZ {H : Type} {enc : TypeId × Value -> H} {a : Assume} {C : Checked} {os : Os} {f : FuncId} {fn : Func} {s : ChangeSpec} {conds : List PathCond} {apart fresh handsOn again : Bool} (tW : TypeId) (msg : Nat -> Value)
  (own : ownKnob C.prog.godebug = none) (started : os.Started) (noInit : C.prog.inits.idxOf? f = none) (hfn : C.prog.funcs[f]? = some fn)
  (witness : ∃ (w : World) (tape : Tape) (i : Input), w.os = os ∧ (w.forCall tape i).Shaped C.prog ∧ i.vars = [] ∧ Input.okWide C.prog (w.forCall tape i) .any w.heap.size f i ∧
   s.pre6 enc C.prog fn conds apart (w.forCall tape i).memory i.args ∧ a.holds C.prog (lone (Frame.enter C.prog f i.args .normal) [] (w.forCall tape i)))
  (contract : ∀ (W : World) (base : Nat) (args : Array Value) (ds gs : List (DataW H)) (before : List MemPlace),
   (∀ (j : Nat) t v, fn.params[j]? = some t -> args[j]? = some v -> Value.okWide C.prog W .any base t v) ->
   DataW.Whole enc C.prog fn.params.toList s.vars apart W args.toList ds gs before ->
   conds.all (PathCond.test C.prog ⟨fn.params.toList, ds, s.plain.varTypes C.prog, gs⟩) = true ->
   (DataW.weightsEach C.prog (fn.params.toList ++ s.plain.varTypes C.prog) (ds ++ gs)).all (· <= reachBytes) = true ->
   a.holds C.prog (lone (Frame.enter C.prog f args .normal) [] W) ->
   @Calls C.prog (zSys C.prog (Cp W.heap.size tW msg)) f args (seenZ W) fun e v' => ∃ x, e = .returned x ∧ Below (seenZ W).heap.size (seenZ W) v' ∧ ∀ W', Below W.heap.size W W' -> s.post enc C.prog fn apart fresh handsOn again W args x W') :
  ReturnsInLeavingWide a C os f .any (s.pre6 enc C.prog fn conds apart) (s.post enc C.prog fn apart fresh handsOn again) := by
 refine returnsInLeavingWide_of_good own started witness ?_
 intro w tape i _ _ _ hok hpre hholds
 obtain ⟨_, _, _, fn', hfn', _, _, _, _, hval⟩ := hok
 have e : fn' = fn := Option.some.inj (hfn'.symm.trans hfn)
 subst e
 obtain ⟨⟨ds, gs, before, hw, hc⟩, hz⟩ := hpre
 have hw' := DataW.Whole.of_heap (w' := w.forCall tape i) (by rfl) hw
 have hcalls := contract (w.forCall tape i) w.heap.size i.args ds gs before hval hw' hc (hz.weights hw) hholds
 obtain ⟨M, last, o, w', t', h1, h2, h3, h4⟩ := runs_of_viewsZ rfl noInit hcalls
 exact ⟨M, last, o, w', t', h1, h2, h3, h4.mono fun v hp => ChangeSpec.post_blind hp⟩
end Go.Proofs.Yteppiphdbondeaa.N
