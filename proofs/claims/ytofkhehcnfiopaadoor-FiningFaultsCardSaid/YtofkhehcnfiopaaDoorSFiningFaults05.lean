/- Parts of the walks of the laws on fining, those that FiningFaults needs: F6, Far, F7, Along, F8, Market, Market2. -/
import Derived.Test.YtofkhehcnfiopaaDoorSFiningFaults04
import Derived.Test.YtofkhehcnfiopaaDoorProg
namespace Go.Proofs.YtofkhehcnfiopaaDoor.N
open Go Go.RowKit Go.Proofs
set_option linter.unusedSectionVars false
variable [I : Sys]
theorem F.ent102 : Enters Tryd.prog 102 := enters_of Tryd.func102 rfl (by kernel_rfl)
theorem F.ent122 : Enters Tryd.prog 122 := enters_of Tryd.func122 rfl (by kernel_rfl)
theorem F.ent75 : Enters Tryd.prog 75 := enters_of Tryd.func75 rfl (by kernel_rfl)
theorem F.ent76 : Enters Tryd.prog 76 := enters_of Tryd.func76 rfl (by kernel_rfl)
theorem F.ent77 : Enters Tryd.prog 77 := enters_of Tryd.func77 rfl (by kernel_rfl)
theorem F.ent84 : Enters Tryd.prog 84 := enters_of Tryd.func84 rfl (by kernel_rfl)
theorem F.one35 : One Tryd.prog 35 := ⟨by unfold aggB; rw [Tryd.underlying35], by rw [Tryd.underlying35]; simp⟩
theorem F.pl79 : Places Tryd.prog 79 [(0, 1), (1, 1), (2, 1)] := .inr ⟨_, _, 1, Tryd.underlying79, by kernel_rfl, rfl⟩
theorem F.ti35 : TI Tryd.prog 35 (.int .i64 0) 1 8 := TI.of (by kernel_rfl)
theorem shortest_c {C : Ctx} {fr : List (Nat × Value)} {T : List Res} {a : Act} {w : World} (hC : C.P = Tryd.prog) {ags : List Ag} {used f p cg : Nat} {aA : Option Addr} (hok : Oks ags) (hu : used < 256) (h0 : Tm.lo (f, 0, 0)) (hp : p < 256) (hAg : Res.row 89 5 aA ags.length cg (ags.flatMap Ag.cells) ∈ T) (ha : At C fr (T) a w) : Calls C.P 102 #[.agg [.slice aA ags.length cg, .int .u8 (used : Int)].toArray, .int .u8 (f : Int), .int .u8 (p : Int)] w fun e w' => ∃ o, FoundO ags used 1 (-1) (f, 0, 0) (fun t => decide (nn t.1 p = 0)) o ∧ e = .returned (.tuple #[.slice (wayO o).A (wayO o).how.length (wayO o).c, .bool o.isSome]) ∧ At C fr (.row 3 1 (wayO o).A (wayO o).how.length (wayO o).c (ints (wayO o).how) :: T) a w' := by
  obtain ⟨P, B, w0, N0, ds⟩ := C
  obtain rfl : P = Tryd.prog := hC
  refine enter_in (N := 15) [(0, .agg [.slice aA ags.length cg, .int .u8 (used : Int)].toArray), (1, .int .u8 (f : Int)), (2, .int .u8 (p : Int))] ha Tryd.func102 rfl Tryd.ntmps102 rfl rfl ?_
  refine cod_seq ?_
  refine cod_region ?_
  refine lst_box rfl rfl ?_
  intro b3
  refine lst_box rfl rfl ?_
  intro b5
  refine lst_assign rfl rfl ?_
  refine lst_assign rfl rfl ?_
  refine lst_nil ?_
  refine ex_then ?_
  refine cod_seq ?_
  refine cod_region ?_
  refine lst_loadN rfl rfl F.agg75 F.ti75 ?_
  refine lst_move rfl rfl ?_
  refine lst_struct (vs := [(0, _)]) (l' := [_, _, _]) rfl rfl F.ti79 F.pl79 (.cons rfl rfl (.nil _)) rfl ?_
  refine lst_makeFunc (fs := []) (cs := [_]) rfl rfl rfl ?_
  refine lst_call (X := Option Wk) (first := []) (cap := []) (vs := [_, _, _, _, _]) (p := FoundO ags (used) 1 (-1) (f, 0, 0) (fun t => decide (nn t.1 p = 0))) (val := fun o => .tuple #[.slice (wayO o).A (wayO o).how.length (wayO o).c, .bool o.isSome]) (rs := fun o => .row 3 1 (wayO o).A (wayO o).how.length (wayO o).c (ints (wayO o).how) :: endO (.blk b5 (.cells [.int .u8 (p : Int)].toArray 77 (0, 0))) ((fun _ => .blk b5 (.cells [.int .u8 (p : Int)].toArray 77 (0, 0)))) o :: .blk b3 (.cells [.slice aA ags.length cg, .int .u8 (used : Int)].toArray 75 (0, 0)) :: T) rfl rfl rfl F.ent77 (fun a w ha => (find_o (r := .blk b5 (.cells [.int .u8 (p : Int)].toArray 77 (0, 0))) (r' := (fun _ => .blk b5 (.cells [.int .u8 (p : Int)].toArray 77 (0, 0)))) (t0 := (f, 0, 0)) (n := 1) (goal := (fun t => decide (nn t.1 p = 0))) (cap := [.pointer (some ⟨b5, 0, none⟩)]) (fid := 122) rfl hok hu (by omega) (by omega) h0 (by simp [hAg]) F.ent122 (fun N fr Y a w t ht hY h => (shortest1_c (bp := b5) rfl ht.ok hp h).mono (fun e w' hh => ⟨hh.1, by rw [ite_self]; exact hh.2⟩)) ha).mono (fun e w' h => by obtain ⟨o, h1, h2, h3⟩ := h; exact ⟨o, h1, h2, h3⟩)) ?_
  intro o hfo
  dsimp only
  refine lst_extract rfl rfl rfl ?_
  refine lst_extract rfl rfl rfl ?_
  refine lst_assign rfl rfl ?_
  refine lst_assign rfl rfl ?_
  refine lst_nil ?_
  refine ex_then ?_
  refine cod_ret ?_
  exact ex_ret rfl (fun a w ha => res_two rfl rfl rfl ha) (fun _ _ ha' => ⟨o, hfo, rfl, ha.back (ha'.pck (by repeat (first | exact Pck.nil _ | exact Pck.refl _ | (apply Pck.cons; focus ((repeat (first | exact Rem.here _ | apply Rem.there)); done)) | refine Pck.skip _ ?_)))⟩)

theorem Shortest_ok (A : Option Addr) (c : Nat) (ags : List Ag) (hok : Oks ags) (f p : Nat) (hf : f < 64) (hp : p < 64) (w : World) (hA : RdL Ag.cells 5 w A ags) : Calls Tryd.prog 53 #[.slice A ags.length c, .int .i64 (f : Int), .int .i64 (p : Int)] w fun e w' => ∃ o, FoundO ags (usedAll ags.length) 1 (-1) (f, 0, 0) (fun t => decide (nn t.1 p = 0)) o ∧ e = .returned (.tuple #[.slice (wayO o).A (wayO o).how.length (wayO o).c, .int .i64 (if o.isSome then 0 else 11)]) ∧ Grew w w' [.row 3 1 (wayO o).A (wayO o).how.length (wayO o).c (ints (wayO o).how)] := by
  have hua : usedAll ags.length < 256 := by have := usedAll_lt hok.1; omega
  refine enter_defers (N := 24) [(0, .slice A ags.length c), (1, .int .i64 (f : Int)), (2, .int .i64 (p : Int))] Tryd.func53 rfl Tryd.ntmps53 rfl rfl ?_
  refine cod_seq ?_
  refine cod_region ?_
  refine lst_assign rfl rfl ?_
  refine lst_alloc rfl F.ti35 ?_
  intro b7
  refine lst_nil ?_
  refine ex_then ?_
  refine cod_seq ?_
  refine cod_region ?_
  refine lst_defer (first := []) (cap := []) (vs := [_]) rfl rfl ?_
  refine lst_nil ?_
  refine ex_then ?_
  refine cod_seq ?_
  refine cod_region ?_
  refine lst_move rfl rfl ?_
  refine lst_fn (X := Option Addr × Nat) (vs := [_]) (p := fun _ => True) (val := fun x => .agg [.slice x.1 ags.length x.2, .int .u8 (usedAll ags.length : Nat)].toArray) (rs := fun x => [.row 89 5 x.1 ags.length x.2 (ags.flatMap Ag.cells)]) rfl rfl F.ent75 (fun a w ha => (begin_ok A c ags hok w (hA.later ha.below)).mono (fun e w' h => by obtain ⟨A', c', h1, h2⟩ := h; exact ⟨(A', c'), trivial, h1, h2⟩)) ?_
  rintro ⟨aA, cg⟩ -
  dsimp only [List.cons_append, List.nil_append]
  refine lst_alloc rfl F.ti75 ?_
  intro b8
  refine lst_store rfl rfl F.ti75 rfl ?_
  refine lst_nil ?_
  refine ex_then ?_
  refine cod_seq ?_
  refine any_begin [] F.follows 11 rfl [false, false, false, false, false, false, false, false, false, false, false] rfl ?_
  refine any_take (listed' := [true, false, false, false, false, false, false, false, false, false, false].toArray) 0 rfl rfl rfl (by kernel_rfl) (by kernel_rfl) (by kernel_rfl) (by repeat (first | exact List.Sublist.refl _ | exact List.nil_sublist _ | refine List.Sublist.cons_cons _ ?_ | refine List.Sublist.cons _ ?_)) (yld_loadN rfl F.agg75 F.ti75) rfl ?_
  refine any_take (listed' := [true, true, false, false, false, false, false, false, false, false, false].toArray) 1 rfl rfl rfl (by kernel_rfl) (by kernel_rfl) (by kernel_rfl) (by repeat (first | exact List.Sublist.refl _ | exact List.nil_sublist _ | refine List.Sublist.cons_cons _ ?_ | refine List.Sublist.cons _ ?_)) (yld_move rfl) rfl ?_
  refine any_take (listed' := [true, true, false, true, false, false, false, false, false, false, false].toArray) 3 rfl rfl rfl (by kernel_rfl) (by kernel_rfl) (by kernel_rfl) (by repeat (first | exact List.Sublist.refl _ | exact List.nil_sublist _ | refine List.Sublist.cons_cons _ ?_ | refine List.Sublist.cons _ ?_)) (yld_move rfl) rfl ?_
  refine any_one (listed' := [true, true, true, true, false, false, false, false, false, false, false].toArray) 2 (by kernel_rfl) rfl rfl ?_
  refine lst_fn0 (vs := [_]) rfl rfl F.ent76 (fun a w ha => melt_ok f hf w) ?_
  refine lst_nil ?_
  refine any_next (by repeat (first | exact List.Sublist.refl _ | exact List.nil_sublist _ | refine List.Sublist.cons_cons _ ?_ | refine List.Sublist.cons _ ?_)) ?_
  refine any_one (listed' := [true, true, true, true, true, false, false, false, false, false, false].toArray) 4 (by kernel_rfl) rfl rfl ?_
  refine lst_fn0 (vs := [_]) rfl rfl F.ent76 (fun a w ha => melt_ok p hp w) ?_
  refine lst_nil ?_
  refine any_next (by repeat (first | exact List.Sublist.refl _ | exact List.nil_sublist _ | refine List.Sublist.cons_cons _ ?_ | refine List.Sublist.cons _ ?_)) ?_
  refine any_one (listed' := [true, true, true, true, true, true, false, false, false, false, false].toArray) 5 (by kernel_rfl) rfl rfl ?_
  refine lst_call (X := Option Wk) (first := []) (cap := []) (vs := [_, _, _]) (p := FoundO ags (usedAll ags.length) 1 (-1) (f, 0, 0) (fun t => decide (nn t.1 p = 0))) (val := fun o => .tuple #[.slice (wayO o).A (wayO o).how.length (wayO o).c, .bool o.isSome]) (rs := fun o => .row 3 1 (wayO o).A (wayO o).how.length (wayO o).c (ints (wayO o).how) :: .blk b8 (.cells [.slice aA ags.length cg, .int .u8 (usedAll ags.length : Nat)].toArray 75 (0, 0)) :: .row 89 5 aA ags.length cg (ags.flatMap Ag.cells) :: [.blk b7 (.cells [.int .i64 0].toArray 35 (0, 0))]) rfl rfl rfl F.ent102 (fun a w ha => (shortest_c rfl hok hua ⟨hf, show (0 : Nat) < 64 by omega, show (0 : Nat) < 64 by omega⟩ (by omega) (by simp) ha).mono (fun e w' h => by obtain ⟨o, h1, h2, h3⟩ := h; exact ⟨o, h1, h2, h3⟩)) ?_
  intro o hfo
  dsimp only
  refine lst_nil ?_
  refine any_next (by repeat (first | exact List.Sublist.refl _ | exact List.nil_sublist _ | refine List.Sublist.cons_cons _ ?_ | refine List.Sublist.cons _ ?_)) ?_
  refine any_take (listed' := [true, true, true, true, true, true, true, false, false, false, false].toArray) 6 rfl rfl rfl (by kernel_rfl) (by kernel_rfl) (by kernel_rfl) (by repeat (first | exact List.Sublist.refl _ | exact List.nil_sublist _ | refine List.Sublist.cons_cons _ ?_ | refine List.Sublist.cons _ ?_)) (yld_move rfl) rfl ?_
  refine any_take (listed' := [true, true, true, true, true, true, true, true, false, false, false].toArray) 7 rfl rfl rfl (by kernel_rfl) (by kernel_rfl) (by kernel_rfl) (by repeat (first | exact List.Sublist.refl _ | exact List.nil_sublist _ | refine List.Sublist.cons_cons _ ?_ | refine List.Sublist.cons _ ?_)) (yld_extract rfl rfl) rfl ?_
  refine any_take (listed' := [true, true, true, true, true, true, true, true, true, false, false].toArray) 8 rfl rfl rfl (by kernel_rfl) (by kernel_rfl) (by kernel_rfl) (by repeat (first | exact List.Sublist.refl _ | exact List.nil_sublist _ | refine List.Sublist.cons_cons _ ?_ | refine List.Sublist.cons _ ?_)) (yld_extract rfl rfl) rfl ?_
  refine any_take (listed' := [true, true, true, true, true, true, true, true, true, true, false].toArray) 9 rfl rfl rfl (by kernel_rfl) (by kernel_rfl) (by kernel_rfl) (by repeat (first | exact List.Sublist.refl _ | exact List.nil_sublist _ | refine List.Sublist.cons_cons _ ?_ | refine List.Sublist.cons _ ?_)) (yld_assign rfl) rfl ?_
  refine any_take (listed' := [true, true, true, true, true, true, true, true, true, true, true].toArray) 10 rfl rfl rfl (by kernel_rfl) (by kernel_rfl) (by kernel_rfl) (by repeat (first | exact List.Sublist.refl _ | exact List.nil_sublist _ | refine List.Sublist.cons_cons _ ?_ | refine List.Sublist.cons _ ?_)) (yld_assign rfl) rfl ?_
  refine any_done rfl (by kernel_rfl) ?_
  refine ex_then ?_
  refine cod_seq ?_
  refine cod_seq ?_
  refine cod_region ?_
  refine lst_move rfl rfl ?_
  refine lst_not rfl rfl ?_
  refine lst_nil ?_
  refine ex_then ?_
  refine cod_cond_bool rfl (fun hc0 => ?_) (fun hc0 => ?_)
  · skip
    have ho : o = none := by cases o with
      | none => rfl
      | some k => cases hc0
    subst ho
    refine cod_seq ?_
    refine cod_region ?_
    refine lst_assign rfl rfl ?_
    refine lst_store rfl rfl F.ti35 rfl ?_
    refine lst_nil ?_
    refine ex_then ?_
    refine cod_ret ?_
    refine ex_then_ret ?_
    exact ex_ret_caught (fun a w ha => ⟨_, res_tc (fn := Tryd.f53) ha rfl rfl rfl F.one35, none, hfo, by simp [wayO], ha.grown (by repeat (first | exact List.Sublist.refl _ | exact List.nil_sublist _ | refine List.Sublist.cons_cons _ ?_ | refine List.Sublist.cons _ ?_))⟩)
  · skip
    obtain ⟨k, rfl⟩ : ∃ k, o = some k := by cases o with
      | none => cases hc0
      | some k => exact ⟨k, rfl⟩
    refine cod_skip ?_
    refine ex_then ?_
    refine cod_seq ?_
    refine cod_region ?_
    refine lst_move rfl rfl ?_
    refine lst_assign rfl rfl ?_
    refine lst_store rfl rfl F.ti35 rfl ?_
    refine lst_nil ?_
    refine ex_then ?_
    refine cod_ret ?_
    exact ex_ret_caught (fun a w ha => ⟨_, res_tc (fn := Tryd.f53) ha rfl rfl rfl F.one35, some k, hfo, by simp [wayO], ha.grown (by repeat (first | exact List.Sublist.refl _ | exact List.nil_sublist _ | refine List.Sublist.cons_cons _ ?_ | refine List.Sublist.cons _ ?_))⟩)

theorem Tells_ok (A : Option Addr) (c : Nat) (ags : List Ag) (hok : Oks ags) (f g : Nat) (hf : f < 64) (hg : g < 64) (w : World) (hA : RdL Ag.cells 5 w A ags) : Calls Tryd.prog 30 #[.slice A ags.length c, .int .i64 (f : Int), .int .i64 (g : Int)] w fun e w' => ∃ o A c, FoundO ags (usedAll ags.length) 2 4 (f, g, 0) (tellsG ags) o ∧ e = .returned (.tuple #[.slice A (tellsL ags o).length c, .int .i64 (if o.isSome then 0 else 11)]) ∧ Grew w w' [.row 3 1 A (tellsL ags o).length c (ints (tellsL ags o))] := by
  have hua : usedAll ags.length < 256 := by have := usedAll_lt hok.1; omega
  refine enter_defers (N := 32) [(0, .slice A ags.length c), (1, .int .i64 (f : Int)), (2, .int .i64 (g : Int))] Tryd.func30 rfl Tryd.ntmps30 rfl rfl ?_
  refine cod_seq ?_
  refine cod_region ?_
  refine lst_assign rfl rfl ?_
  refine lst_alloc rfl F.ti35 ?_
  intro b7
  refine lst_nil ?_
  refine ex_then ?_
  refine cod_seq ?_
  refine cod_region ?_
  refine lst_defer (first := []) (cap := []) (vs := [_]) rfl rfl ?_
  refine lst_nil ?_
  refine ex_then ?_
  refine cod_seq ?_
  refine cod_region ?_
  refine lst_move rfl rfl ?_
  refine lst_fn (X := Option Addr × Nat) (vs := [_]) (p := fun _ => True) (val := fun x => .agg [.slice x.1 ags.length x.2, .int .u8 (usedAll ags.length : Nat)].toArray) (rs := fun x => [.row 89 5 x.1 ags.length x.2 (ags.flatMap Ag.cells)]) rfl rfl F.ent75 (fun a w ha => (begin_ok A c ags hok w (hA.later ha.below)).mono (fun e w' h => by obtain ⟨A', c', h1, h2⟩ := h; exact ⟨(A', c'), trivial, h1, h2⟩)) ?_
  rintro ⟨aA, cg⟩ -
  dsimp only [List.cons_append, List.nil_append]
  refine lst_alloc rfl F.ti75 ?_
  intro b8
  refine lst_store rfl rfl F.ti75 rfl ?_
  refine lst_nil ?_
  refine ex_then ?_
  refine cod_seq ?_
  refine cod_region ?_
  refine lst_move rfl rfl ?_
  refine lst_fn0 (vs := [_]) rfl rfl F.ent76 (fun a w ha => melt_ok f hf w) ?_
  refine lst_move rfl rfl ?_
  refine lst_fn0 (vs := [_]) rfl rfl F.ent76 (fun a w ha => melt_ok g hg w) ?_
  refine lst_struct (vs := [(0, _), (1, _)]) (l' := [_, _, _]) rfl rfl F.ti79 F.pl79 (.cons rfl rfl (.cons rfl rfl (.nil _))) rfl ?_
  refine lst_alloc rfl F.ti79 ?_
  intro b9
  refine lst_store rfl rfl F.ti79 rfl ?_
  refine lst_nil ?_
  refine ex_then ?_
  refine cod_seq ?_
  refine cod_region ?_
  refine lst_alloc rfl F.ti3 ?_
  intro b10
  refine lst_store rfl rfl F.ti3 rfl ?_
  refine lst_nil ?_
  refine ex_then ?_
  refine cod_seq ?_
  refine cod_region ?_
  refine lst_loadN rfl rfl F.agg75 F.ti75 ?_
  refine lst_loadN rfl rfl F.agg79 F.ti79 ?_
  refine lst_makeFunc (fs := []) (cs := [_, _]) rfl rfl rfl ?_
  refine lst_call (X := Option Wk) (first := []) (cap := []) (vs := [_, _, _, _, _]) (p := FoundO ags (usedAll ags.length) 2 (4) (f, g, 0) (tellsG ags)) (val := fun o => .tuple #[.slice (wayO o).A (wayO o).how.length (wayO o).c, .bool o.isSome]) (rs := fun o => .row 3 1 (wayO o).A (wayO o).how.length (wayO o).c (ints (wayO o).how) :: .blk b10 (.cells [.int .i64 (idxO ags o)].toArray 3 (0, 0)) :: .blk b9 (.cells [.int .u8 (f : Int), .int .u8 (g : Int), .int .u8 0].toArray 79 (0, 0)) :: .blk b8 (.cells [.slice aA ags.length cg, .int .u8 (usedAll ags.length : Nat)].toArray 75 (0, 0)) :: .row 89 5 aA ags.length cg (ags.flatMap Ag.cells) :: [.blk b7 (.cells [.int .i64 0].toArray 35 (0, 0))]) rfl rfl rfl F.ent77 (fun a w ha => (find_o (r := .blk b10 (.cells [.int .i64 (-1)].toArray 3 (0, 0))) (r' := (fun t => .blk b10 (.cells [.int .i64 (tellsI ags t : Int)].toArray 3 (0, 0)))) (t0 := (f, g, 0)) (n := 2) (goal := (tellsG ags)) (cap := [.pointer (some ⟨b8, 0, none⟩), .pointer (some ⟨b10, 0, none⟩)]) (fid := 84) rfl hok hua (by omega) (by omega) ⟨hf, hg, show (0 : Nat) < 64 by omega⟩ (by simp) F.ent84 (fun N fr Y a w t ht hY h => tells1_c (bc := b8) (bi := b10) (aA := aA) (cg := cg) (used := usedAll ags.length) rfl hok ht.ok (hY _ (by simp)) (hY _ (by simp)) h) ha).mono (fun e w' h => by obtain ⟨o, h1, h2, h3⟩ := h; rw [endO_tells] at h3; exact ⟨o, h1, h2, h3⟩)) ?_
  intro o hfo
  dsimp only
  refine lst_move rfl rfl ?_
  refine lst_extract rfl rfl rfl ?_
  refine lst_extract rfl rfl rfl ?_
  refine lst_assign rfl rfl ?_
  refine lst_assign rfl rfl ?_
  refine lst_nil ?_
  refine ex_then ?_
  refine cod_seq ?_
  refine cod_seq ?_
  refine cod_region ?_
  refine lst_move rfl rfl ?_
  refine lst_not rfl rfl ?_
  refine lst_nil ?_
  refine ex_then ?_
  refine cod_cond_bool rfl (fun hc0 => ?_) (fun hc0 => ?_)
  · skip
    have ho : o = none := by cases o with
      | none => rfl
      | some k => cases hc0
    subst ho
    refine cod_seq ?_
    refine cod_region ?_
    refine lst_assign rfl rfl ?_
    refine lst_store rfl rfl F.ti35 rfl ?_
    refine lst_nil ?_
    refine ex_then ?_
    refine cod_ret ?_
    refine ex_then_ret ?_
    exact ex_ret_caught (fun a w ha => ⟨_, res_tc (fn := Tryd.f30) ha rfl rfl rfl F.one35, none, none, 0, hfo, by simp [tellsL], ha.grown (by repeat (first | exact List.Sublist.refl _ | exact List.nil_sublist _ | refine List.Sublist.cons_cons _ ?_ | refine List.Sublist.cons _ ?_))⟩)
  · skip
    obtain ⟨k, rfl⟩ : ∃ k, o = some k := by cases o with
      | none => cases hc0
      | some k => exact ⟨k, rfl⟩
    refine cod_skip ?_
    refine ex_then ?_
    refine cod_seq ?_
    refine cod_region ?_
    refine lst_move rfl rfl ?_
    refine lst_load rfl rfl F.one3 ?_
    refine lst_lit (vs := [(0, _)]) rfl rfl Tryd.underlying25 F.ti3 rfl rfl rfl ?_
    intro b30
    refine lst_append rfl rfl rfl Tryd.underlying25 F.ti3 rfl rfl rfl (by show k.how.length + 1 ≤ maxLen; unfold maxLen; have := found_len hfo; omega) (by show (k.how.length + 1) * 8 ≤ _; have := found_len hfo; omega) ?_
    intro An cn
    refine lst_assign rfl rfl ?_
    refine lst_store rfl rfl F.ti35 rfl ?_
    refine lst_nil ?_
    refine ex_then ?_
    refine cod_ret ?_
    exact ex_ret_caught (fun a w ha => ⟨_, res_tc (fn := Tryd.f30) ha rfl rfl rfl F.one35, some k, An, cn, hfo, by simp [tellsL, wayO], by have h := ha.grown (rs := [.row 3 1 An (k.how.length + 1) cn (ints k.how ++ [.int .i64 (tellsI ags k.team : Int)])]) (by repeat (first | exact List.Sublist.refl _ | exact List.nil_sublist _ | refine List.Sublist.cons_cons _ ?_ | refine List.Sublist.cons _ ?_)); simp only [tellsL, List.length_append, List.length_singleton, ints_snoc]; exact h⟩)

end Go.Proofs.YtofkhehcnfiopaaDoor.N
namespace Go.Proofs.YtofkhehcnfiopaaDoor.N
open Go Go.RowKit Go.Proofs
set_option linter.unusedSectionVars false
variable [I : Sys]
/-- The team of some melts. -/
def teamOf (ms : List Nat) : Nat → Tm
  | 0 => (0, 0, 0)
  | k + 1 => tput (teamOf ms k) k (ms.getD k 0)
theorem teamOf_lo {ms : List Nat} (h : ∀ m ∈ ms, m < 64) : ∀ k, Tm.lo (teamOf ms k)
  | 0 => ⟨show (0 : Nat) < 64 by omega, show (0 : Nat) < 64 by omega, show (0 : Nat) < 64 by omega⟩
  | k + 1 => tput_lo (teamOf_lo h k) k (by
    rw [List.getD_eq_getElem?_getD]
    cases hk : ms[k]? with
    | none => simp
    | some m => exact h m (List.mem_of_getElem? hk))
/-- The melt that takes longest, and how long, of the first ones. -/
def farL (os : Nat → Option Wk) : Nat → Nat × Nat
  | 0 => (0, 0)
  | k + 1 => if ((os k).isSome && decide (((wayO (os k)).how.length : Int) > ((farL os k).2 : Int))) = true then (k, (wayO (os k)).how.length) else farL os k
def upd (os : Nat → Option Wk) (k : Nat) (o : Option Wk) : Nat → Option Wk := fun f => if f = k then o else os f
theorem farL_congr {os os' : Nat → Option Wk} : ∀ k, (∀ f, f < k → os f = os' f) → farL os k = farL os' k
  | 0, _ => rfl
  | k + 1, h => by
    unfold farL
    rw [farL_congr k (fun f hf => h f (by omega)), h k (by omega)]
theorem farL_upd (os : Nat → Option Wk) (k : Nat) (o : Option Wk) : farL (upd os k o) k = farL os k :=
  farL_congr k (fun f hf => if_neg (by omega))
theorem upd_at (os : Nat → Option Wk) (k : Nat) (o : Option Wk) : upd os k o k = o := if_pos rfl
theorem farL_yes (os : Nat → Option Wk) (k : Nat) (o : Option Wk) (h : (o.isSome && decide (((wayO o).how.length : Int) > ((farL os k).2 : Int))) = true) : farL (upd os k o) (k + 1) = (k, (wayO o).how.length) := by
  unfold farL
  rw [farL_upd, upd_at, if_pos h]
theorem farL_no (os : Nat → Option Wk) (k : Nat) (o : Option Wk) (h : (o.isSome && decide (((wayO o).how.length : Int) > ((farL os k).2 : Int))) = false) : farL (upd os k o) (k + 1) = farL os k := by
  show (if _ then _ else farL (upd os k o) k) = _
  rw [farL_upd, upd_at, if_neg (by rw [h]; simp)]
theorem far_found {P : Nat → Option Wk → Prop} {os : Nat → Option Wk} {k : Nat} {o : Option Wk} (h : ∀ f, f < k → P f (os f)) (ho : P k o) : ∀ f, f < k + 1 → P f (upd os k o f) := by
  intro f hf
  unfold upd
  split
  · rename_i e; subst e; exact ho
  · exact h f (by omega)
end Go.Proofs.YtofkhehcnfiopaaDoor.N
namespace Go.Proofs.YtofkhehcnfiopaaDoor.N
open Go Go.RowKit Go.Proofs
set_option linter.unusedSectionVars false
variable [I : Sys]
theorem F.ent78 : Enters Tryd.prog 78 := enters_of Tryd.func78 rfl (by kernel_rfl)
theorem Both_ok (A : Option Addr) (c : Nat) (ags : List Ag) (hok : Oks ags) (mA : Option Addr) (mc : Nat) (ms : List Nat) (p : Nat) (hm1 : 1 ≤ ms.length) (hm3 : ms.length ≤ 3) (hms : ∀ m ∈ ms, m < 64) (hp : p < 64) (w : World) (hA : RdL Ag.cells 5 w A ags) (hM : RdL ncell 1 w mA ms) : Calls Tryd.prog 28 #[.slice A ags.length c, .slice mA ms.length mc, .int .i64 (p : Int)] w fun e w' => ∃ o, FoundO ags (usedAll ags.length) ms.length 5 (teamOf ms ms.length) (fun t => clearT p t ms.length) o ∧ e = .returned (.tuple #[.slice (wayO o).A (wayO o).how.length (wayO o).c, .int .i64 (if o.isSome then 0 else 11)]) ∧ Grew w w' [.row 3 1 (wayO o).A (wayO o).how.length (wayO o).c (ints (wayO o).how)] := by
  have hua : usedAll ags.length < 256 := by have := usedAll_lt hok.1; omega
  refine enter_defers (N := 48) [(0, .slice A ags.length c), (1, .slice mA ms.length mc), (2, .int .i64 (p : Int))] Tryd.func28 rfl Tryd.ntmps28 rfl rfl ?_
  refine cod_seq ?_
  refine cod_region ?_
  refine lst_box rfl rfl ?_
  intro b4
  refine lst_assign rfl rfl ?_
  refine lst_alloc rfl F.ti35 ?_
  intro b7
  refine lst_nil ?_
  refine ex_then ?_
  refine cod_seq ?_
  refine cod_region ?_
  refine lst_defer (first := []) (cap := []) (vs := [_]) rfl rfl ?_
  refine lst_nil ?_
  refine ex_then ?_
  refine cod_seq ?_
  refine cod_region ?_
  refine lst_move rfl rfl ?_
  refine lst_fn (X := Option Addr × Nat) (vs := [_]) (p := fun _ => True) (val := fun x => .agg [.slice x.1 ags.length x.2, .int .u8 (usedAll ags.length : Nat)].toArray) (rs := fun x => [.row 89 5 x.1 ags.length x.2 (ags.flatMap Ag.cells)]) rfl rfl F.ent75 (fun a w ha => (begin_ok A c ags hok w (hA.later ha.below)).mono (fun e w' h => by obtain ⟨A', c', h1, h2⟩ := h; exact ⟨(A', c'), trivial, h1, h2⟩)) ?_
  rintro ⟨aA, cg⟩ -
  dsimp only [List.cons_append, List.nil_append]
  refine lst_alloc rfl F.ti75 ?_
  intro b8
  refine lst_store rfl rfl F.ti75 rfl ?_
  refine lst_nil ?_
  refine ex_then ?_
  refine cod_seq ?_
  refine cod_seq ?_
  refine cod_region ?_
  refine lst_load rfl rfl F.one25 ?_
  refine lst_len rfl rfl Tryd.underlying25 ?_
  refine lst_int rfl rfl rfl bin_eql ?_
  refine lst_nil ?_
  refine ex_then ?_
  refine cod_cond_dec rfl (fun hc0 => ?_) (fun hc0 => ?_)
  · skip
    exact absurd hc0 (by omega) -- done
  · skip
    refine cod_skip ?_
    refine ex_then ?_
    refine cod_seq ?_
    refine cod_seq ?_
    refine cod_region ?_
    refine lst_load rfl rfl F.one25 ?_
    refine lst_len rfl rfl Tryd.underlying25 ?_
    refine lst_int rfl rfl rfl bin_gtr ?_
    refine lst_nil ?_
    refine ex_then ?_
    refine cod_cond_dec rfl (fun hc1 => ?_) (fun hc1 => ?_)
    · skip
      exact absurd hc1 (by omega) -- done
    · skip
      refine cod_skip ?_
      refine ex_then ?_
      refine cod_seq ?_
      refine cod_region ?_
      refine lst_alloc rfl F.ti79 ?_
      intro b9
      refine lst_nil ?_
      refine ex_then ?_
      refine cod_seq ?_
      refine cod_seq ?_
      refine cod_region ?_
      refine lst_load rfl rfl F.one25 ?_
      refine lst_len rfl rfl Tryd.underlying25 ?_
      refine lst_move rfl rfl ?_
      refine lst_nil ?_
      refine ex_then ?_
      refine cod_block ?_
      refine cod_loop (G := Nat) (fun k => k ≤ ms.length) (fun k => ms.length - k) (fun k => [(2, .int .i64 (p : Int)), (4, .pointer (some ⟨b4, 0, none⟩)), (7, .pointer (some ⟨b7, 0, none⟩)), (8, .pointer (some ⟨b8, 0, none⟩)), (9, .pointer (some ⟨b9, 0, none⟩)), (22, .slice mA ms.length mc), (23, .int .i64 (ms.length : Int)), (24, .int .i64 (k : Int))]) (fun k => .blk b9 (.cells [.int .u8 ((teamOf ms k).1 : Int), .int .u8 ((teamOf ms k).2.1 : Int), .int .u8 ((teamOf ms k).2.2 : Int)].toArray 79 (0, 0)) :: .blk b8 (.cells [.slice aA ags.length cg, .int .u8 (usedAll ags.length : Nat)].toArray 75 (0, 0)) :: .row 89 5 aA ags.length cg (ags.flatMap Ag.cells) :: .blk b7 (.cells [.int .i64 0].toArray 35 (0, 0)) :: [.blk b4 (.cells [.slice mA ms.length mc].toArray 25 (0, 0))]) 0 (Nat.zero_le _) (by repeat (first | exact Sub.nil _ | refine Sub.cons rfl ?_)) (by repeat (first | exact List.Sublist.refl _ | exact List.nil_sublist _ | refine List.Sublist.cons_cons _ ?_ | refine List.Sublist.cons _ ?_)) ?_
      intro k hk
      (try dsimp only at hk ⊢)
      refine cod_seq ?_
      refine cod_region ?_
      refine lst_int rfl rfl rfl bin_lss ?_
      refine lst_nil ?_
      refine ex_then ?_
      refine cod_seq ?_
      refine cod_cond_dec rfl (fun hc2 => ?_) (fun hc2 => ?_)
      · skip
        have hk' : k < ms.length := by omega
        obtain ⟨b, o, rfl, hb, hcell⟩ := hM (by omega)
        obtain ⟨m, hx⟩ : ∃ m, ms[k]? = some m := ⟨_, List.getElem?_eq_getElem hk'⟩
        have hm64 := hms m (List.mem_of_getElem? hx)
        have hmd : ms.getD k 0 = m := by rw [List.getD_eq_getElem?_getD, hx]; rfl
        refine cod_skip ?_
        refine ex_then ?_
        refine cod_seq ?_
        refine cod_block ?_
        refine cod_seq ?_
        refine cod_region ?_
        refine lst_move rfl rfl ?_
        refine lst_index (j := k) rfl rfl rfl Tryd.underlying25 F.ti3 rfl hk' ?_
        refine lst_load_at (v := .int .i64 (m : Int)) rfl rfl F.one3 (fun a w ha => ha.old (hcell k m hx 0 _ rfl) hb) ?_
        refine lst_assign rfl rfl ?_
        refine lst_assign rfl rfl ?_
        refine lst_nil ?_
        refine ex_then ?_
        refine cod_region ?_
        refine lst_move rfl rfl ?_
        refine lst_move rfl rfl ?_
        refine lst_fn0 (vs := [_]) rfl rfl F.ent76 (fun a w ha => melt_ok m hm64 w) ?_
        refine lst_index_arr (j := k) rfl rfl rfl Tryd.underlying79 F.ti77 rfl (by omega) ?_
        refine lst_store_any rfl rfl F.ti77 (by show 0 + k * 1 < 3; omega) (tput_cells (teamOf ms k) (by omega)) UpB.upd ?_
        rw [show tput (teamOf ms k) k m = teamOf ms (k + 1) from by rw [teamOf, hmd]]
        refine lst_nil ?_
        refine ex_block_normal ?_
        refine ex_then ?_
        refine cod_region ?_
        refine lst_int rfl rfl rfl (fun w => bin_add w (wrap_i64' _ (by omega) (by omega))) ?_
        refine lst_move rfl rfl ?_
        refine lst_nil ?_
        refine ex_round (k + 1) (by omega) (by (try dsimp only); omega) (by repeat (first | exact Sub.nil _ | refine Sub.cons rfl ?_)) (by repeat (first | exact List.Sublist.refl _ | exact List.nil_sublist _ | refine List.Sublist.cons_cons _ ?_ | refine List.Sublist.cons _ ?_))
      · skip
        obtain rfl : k = ms.length := by omega
        refine cod_exit ?_
        refine ex_then_exit ?_
        refine ex_then_exit ?_
        refine ex_block_exit ?_
        refine ex_then ?_
        refine cod_seq ?_
        refine cod_region ?_
        refine lst_move rfl rfl ?_
        refine lst_fn0 (vs := [_]) rfl rfl F.ent76 (fun a w ha => melt_ok p hp w) ?_
        refine lst_alloc rfl F.ti77 ?_
        intro b12
        refine lst_store rfl rfl F.ti77 rfl ?_
        refine lst_nil ?_
        refine ex_then ?_
        refine cod_seq ?_
        refine cod_region ?_
        refine lst_loadN rfl rfl F.agg75 F.ti75 ?_
        refine lst_loadN rfl rfl F.agg79 F.ti79 ?_
        refine lst_load rfl rfl F.one25 ?_
        refine lst_len rfl rfl Tryd.underlying25 ?_
        refine lst_makeFunc (fs := []) (cs := [_, _]) rfl rfl rfl ?_
        refine lst_call (X := Option Wk) (first := []) (cap := []) (vs := [_, _, _, _, _]) (p := FoundO ags (usedAll ags.length) ms.length (5) (teamOf ms ms.length) (fun t => clearT p t ms.length)) (val := fun o => .tuple #[.slice (wayO o).A (wayO o).how.length (wayO o).c, .bool o.isSome]) (rs := fun o => .row 3 1 (wayO o).A (wayO o).how.length (wayO o).c (ints (wayO o).how) :: endO (.blk b12 (.cells [.int .u8 (p : Int)].toArray 77 (0, 0))) ((fun _ => .blk b12 (.cells [.int .u8 (p : Int)].toArray 77 (0, 0)))) o :: .blk b9 (.cells [.int .u8 ((teamOf ms ms.length).1 : Int), .int .u8 ((teamOf ms ms.length).2.1 : Int), .int .u8 ((teamOf ms ms.length).2.2 : Int)].toArray 79 (0, 0)) :: .blk b8 (.cells [.slice aA ags.length cg, .int .u8 (usedAll ags.length : Nat)].toArray 75 (0, 0)) :: .row 89 5 aA ags.length cg (ags.flatMap Ag.cells) :: .blk b7 (.cells [.int .i64 0].toArray 35 (0, 0)) :: [.blk b4 (.cells [.slice mA ms.length mc].toArray 25 (0, 0))]) rfl rfl rfl F.ent77 (fun a w ha => (find_o (r := .blk b12 (.cells [.int .u8 (p : Int)].toArray 77 (0, 0))) (r' := (fun _ => .blk b12 (.cells [.int .u8 (p : Int)].toArray 77 (0, 0)))) (t0 := (teamOf ms ms.length)) (n := ms.length) (goal := (fun t => clearT p t ms.length)) (cap := [.pointer (some ⟨b4, 0, none⟩), .pointer (some ⟨b12, 0, none⟩)]) (fid := 78) rfl hok hua (by omega) (by omega) (teamOf_lo hms _) (by simp) F.ent78 (fun N fr Y a w t ht hY h => (both1_c (bl := b4) (bp := b12) (m := ms.length) (mA := mA) (mc := mc) rfl ht.ok (by omega) hm3 (hY _ (by simp)) h).mono (fun e w' hh => ⟨hh.1, by rw [ite_self]; exact hh.2⟩)) ha).mono (fun e w' h => by obtain ⟨o, h1, h2, h3⟩ := h; exact ⟨o, h1, h2, h3⟩)) ?_
        intro o hfo
        dsimp only
        refine lst_move rfl rfl ?_
        refine lst_extract rfl rfl rfl ?_
        refine lst_extract rfl rfl rfl ?_
        refine lst_assign rfl rfl ?_
        refine lst_assign rfl rfl ?_
        refine lst_nil ?_
        refine ex_then ?_
        refine cod_seq ?_
        refine cod_seq ?_
        refine cod_region ?_
        refine lst_move rfl rfl ?_
        refine lst_not rfl rfl ?_
        refine lst_nil ?_
        refine ex_then ?_
        refine cod_cond_bool rfl (fun hc3 => ?_) (fun hc3 => ?_)
        · skip
          have ho : o = none := by cases o with
            | none => rfl
            | some k => cases hc3
          subst ho
          refine cod_seq ?_
          refine cod_region ?_
          refine lst_assign rfl rfl ?_
          refine lst_store rfl rfl F.ti35 rfl ?_
          refine lst_nil ?_
          refine ex_then ?_
          refine cod_ret ?_
          refine ex_then_ret ?_
          exact ex_ret_caught (fun a w ha => ⟨_, res_tc (fn := Tryd.f28) ha rfl rfl rfl F.one35, none, hfo, by simp [wayO], ha.grown (by repeat (first | exact List.Sublist.refl _ | exact List.nil_sublist _ | refine List.Sublist.cons_cons _ ?_ | refine List.Sublist.cons _ ?_))⟩)
        · skip
          obtain ⟨k, rfl⟩ : ∃ k, o = some k := by cases o with
            | none => cases hc3
            | some k => exact ⟨k, rfl⟩
          refine cod_skip ?_
          refine ex_then ?_
          refine cod_seq ?_
          refine cod_region ?_
          refine lst_move rfl rfl ?_
          refine lst_assign rfl rfl ?_
          refine lst_store rfl rfl F.ti35 rfl ?_
          refine lst_nil ?_
          refine ex_then ?_
          refine cod_ret ?_
          exact ex_ret_caught (fun a w ha => ⟨_, res_tc (fn := Tryd.f28) ha rfl rfl rfl F.one35, some k, hfo, by simp [wayO], ha.grown (by repeat (first | exact List.Sublist.refl _ | exact List.nil_sublist _ | refine List.Sublist.cons_cons _ ?_ | refine List.Sublist.cons _ ?_))⟩)

theorem Farthest_ok (A : Option Addr) (c : Nat) (ags : List Ag) (hok : Oks ags) (p : Nat) (hp : p < 64) (w : World) (hA : RdL Ag.cells 5 w A ags) : Calls Tryd.prog 54 #[.slice A ags.length c, .int .i64 (p : Int)] w fun e w' => ∃ os : Nat → Option Wk, (∀ f, f < 64 → FoundO ags (usedAll ags.length) 1 (-1) (f, 0, 0) (fun t => decide (nn t.1 p = 0)) (os f)) ∧ e = .returned (.tuple #[.int .i64 ((farL os 64).1 : Int), .int .i64 ((farL os 64).2 : Int), .int .i64 0]) ∧ Grew w w' [] := by
  have hua : usedAll ags.length < 256 := by have := usedAll_lt hok.1; omega
  refine enter_defers (N := 40) [(0, .slice A ags.length c), (1, .int .i64 (p : Int))] Tryd.func54 rfl Tryd.ntmps54 rfl rfl ?_
  refine cod_seq ?_
  refine cod_region ?_
  refine lst_assign rfl rfl ?_
  refine lst_assign rfl rfl ?_
  refine lst_alloc rfl F.ti35 ?_
  intro b6
  refine lst_nil ?_
  refine ex_then ?_
  refine cod_seq ?_
  refine cod_region ?_
  refine lst_defer (first := []) (cap := []) (vs := [_]) rfl rfl ?_
  refine lst_nil ?_
  refine ex_then ?_
  refine cod_seq ?_
  refine cod_region ?_
  refine lst_move rfl rfl ?_
  refine lst_fn (X := Option Addr × Nat) (vs := [_]) (p := fun _ => True) (val := fun x => .agg [.slice x.1 ags.length x.2, .int .u8 (usedAll ags.length : Nat)].toArray) (rs := fun x => [.row 89 5 x.1 ags.length x.2 (ags.flatMap Ag.cells)]) rfl rfl F.ent75 (fun a w ha => (begin_ok A c ags hok w (hA.later ha.below)).mono (fun e w' h => by obtain ⟨A', c', h1, h2⟩ := h; exact ⟨(A', c'), trivial, h1, h2⟩)) ?_
  rintro ⟨aA, cg⟩ -
  dsimp only [List.cons_append, List.nil_append]
  refine lst_alloc rfl F.ti75 ?_
  intro b7
  refine lst_store rfl rfl F.ti75 rfl ?_
  refine lst_nil ?_
  refine ex_then ?_
  refine cod_seq ?_
  refine cod_region ?_
  refine lst_move rfl rfl ?_
  refine lst_fn0 (vs := [_]) rfl rfl F.ent76 (fun a w ha => melt_ok p hp w) ?_
  refine lst_assign rfl rfl ?_
  refine lst_nil ?_
  refine ex_then ?_
  refine cod_seq ?_
  refine cod_seq ?_
  refine cod_region ?_
  refine lst_move rfl rfl ?_
  refine lst_nil ?_
  refine ex_then ?_
  refine cod_block ?_
  refine cod_loop (G := Nat × (Nat → Option Wk)) (fun g => g.1 ≤ 64 ∧ ∀ f, f < g.1 → FoundO ags (usedAll ags.length) 1 (-1) (f, 0, 0) (fun t => decide (nn t.1 p = 0)) (g.2 f)) (fun g => 64 - g.1) (fun g => [(4, .int .i64 ((farL g.2 g.1).1 : Int)), (5, .int .i64 ((farL g.2 g.1).2 : Int)), (6, .pointer (some ⟨b6, 0, none⟩)), (7, .pointer (some ⟨b7, 0, none⟩)), (8, .int .u8 (p : Int)), (16, .int .i64 (g.1 : Int))]) (fun g => .blk b7 (.cells [.slice aA ags.length cg, .int .u8 (usedAll ags.length : Nat)].toArray 75 (0, 0)) :: .row 89 5 aA ags.length cg (ags.flatMap Ag.cells) :: [.blk b6 (.cells [.int .i64 0].toArray 35 (0, 0))]) (0, fun _ => none) ⟨by omega, fun f h => absurd h (by omega)⟩ (by repeat (first | exact Sub.nil _ | refine Sub.cons rfl ?_)) (by repeat (first | exact List.Sublist.refl _ | exact List.nil_sublist _ | refine List.Sublist.cons_cons _ ?_ | refine List.Sublist.cons _ ?_)) ?_
  rintro ⟨k, os⟩ hk
  (try dsimp only at hk ⊢)
  refine cod_seq ?_
  refine cod_region ?_
  refine lst_int rfl rfl rfl bin_lss ?_
  refine lst_nil ?_
  refine ex_then ?_
  refine cod_seq ?_
  refine cod_cond_dec rfl (fun hc0 => ?_) (fun hc0 => ?_)
  · skip
    have hk64 : k < 64 := by omega
    refine cod_skip ?_
    refine ex_then ?_
    refine cod_seq ?_
    refine cod_block ?_
    refine cod_seq ?_
    refine cod_region ?_
    refine lst_move rfl rfl ?_
    refine lst_assign rfl rfl ?_
    refine lst_nil ?_
    refine ex_then ?_
    refine cod_seq ?_
    refine cod_region ?_
    refine lst_loadN rfl rfl F.agg75 F.ti75 ?_
    refine lst_move rfl rfl ?_
    refine lst_convert rfl rfl Tryd.underlying3 Tryd.underlying77 (wrap_u8 _ (by omega)) ?_
    refine lst_move rfl rfl ?_
    refine lst_call (X := Option Wk) (first := []) (cap := []) (vs := [_, _, _]) (p := FoundO ags (usedAll ags.length) 1 (-1) (k, 0, 0) (fun t => decide (nn t.1 p = 0))) (val := fun o => .tuple #[.slice (wayO o).A (wayO o).how.length (wayO o).c, .bool o.isSome]) (rs := fun o => .row 3 1 (wayO o).A (wayO o).how.length (wayO o).c (ints (wayO o).how) :: .blk b7 (.cells [.slice aA ags.length cg, .int .u8 (usedAll ags.length : Nat)].toArray 75 (0, 0)) :: .row 89 5 aA ags.length cg (ags.flatMap Ag.cells) :: [.blk b6 (.cells [.int .i64 0].toArray 35 (0, 0))]) rfl rfl rfl F.ent102 (fun a w ha => (shortest_c rfl hok hua ⟨hk64, show (0 : Nat) < 64 by omega, show (0 : Nat) < 64 by omega⟩ (by omega) (by simp) ha).mono (fun e w' h => by obtain ⟨o, h1, h2, h3⟩ := h; exact ⟨o, h1, h2, h3⟩)) ?_
    intro o hfo
    dsimp only
    refine lst_move rfl rfl ?_
    refine lst_extract rfl rfl rfl ?_
    refine lst_extract rfl rfl rfl ?_
    refine lst_assign rfl rfl ?_
    refine lst_assign rfl rfl ?_
    refine lst_nil ?_
    refine ex_then ?_
    refine cod_seq ?_
    refine cod_region ?_
    refine lst_cut1 7 33 (.bool (o.isSome && decide (((wayO o).how.length : Int) > ((farL os k).2 : Int)))) ?_ ?_
    · skip
      refine lst_move rfl rfl ?_
      refine lst_move rfl rfl ?_
      refine lst_split_bool (t := 28) rfl (fun hg28 => ?_) (fun hg28 => ?_)
      · skip
        refine lst_on rfl rfl ?_
        refine lst_move rfl rfl ?_
        refine lst_on rfl rfl ?_
        refine lst_len rfl rfl Tryd.underlying25 ?_
        refine lst_on rfl rfl ?_
        refine lst_move rfl rfl ?_
        refine lst_on rfl rfl ?_
        refine lst_int rfl rfl rfl bin_gtr ?_
        refine lst_pick_true rfl rfl rfl ?_
        refine lst_nil ?_
        exact ex_cut (.cons (by first | rfl | simp [look, *]) (by repeat (first | exact Sub.nil _ | refine Sub.cons rfl ?_))) (by repeat (first | exact List.Sublist.refl _ | exact List.nil_sublist _ | refine List.Sublist.cons_cons _ ?_ | refine List.Sublist.cons _ ?_))
      · skip
        refine lst_off rfl rfl rfl ?_
        refine lst_off rfl rfl rfl ?_
        refine lst_off rfl rfl rfl ?_
        refine lst_off rfl rfl rfl ?_
        refine lst_pick_false rfl rfl rfl ?_
        refine lst_nil ?_
        exact ex_cut (.cons (by first | rfl | simp [look, *]) (by repeat (first | exact Sub.nil _ | refine Sub.cons rfl ?_))) (by repeat (first | exact List.Sublist.refl _ | exact List.nil_sublist _ | refine List.Sublist.cons_cons _ ?_ | refine List.Sublist.cons _ ?_))
    refine lst_nil ?_
    refine ex_then ?_
    refine cod_cond_bool rfl (fun hc1 => ?_) (fun hc1 => ?_)
    · skip
      refine cod_region ?_
      refine lst_move rfl rfl ?_
      refine lst_move rfl rfl ?_
      refine lst_len rfl rfl Tryd.underlying25 ?_
      refine lst_assign rfl rfl ?_
      refine lst_assign rfl rfl ?_
      refine lst_nil ?_
      refine ex_block_normal ?_
      refine ex_then ?_
      refine cod_region ?_
      refine lst_int rfl rfl rfl (fun w => bin_add w (wrap_i64' _ (by omega) (by omega))) ?_
      refine lst_move rfl rfl ?_
      refine lst_nil ?_
      have hs := farL_yes os k o hc1
      refine ex_round (k + 1, upd os k o) ⟨by omega, far_found hk.2 hfo⟩ (by (try dsimp only); omega) (by dsimp only; rw [hs]; repeat (first | exact Sub.nil _ | refine Sub.cons rfl ?_)) (by (try dsimp only); repeat (first | exact List.Sublist.refl _ | exact List.nil_sublist _ | refine List.Sublist.cons_cons _ ?_ | refine List.Sublist.cons _ ?_))
    · skip
      refine cod_skip ?_
      refine ex_block_normal ?_
      refine ex_then ?_
      refine cod_region ?_
      refine lst_int rfl rfl rfl (fun w => bin_add w (wrap_i64' _ (by omega) (by omega))) ?_
      refine lst_move rfl rfl ?_
      refine lst_nil ?_
      have hs := farL_no os k o hc1
      refine ex_round (k + 1, upd os k o) ⟨by omega, far_found hk.2 hfo⟩ (by (try dsimp only); omega) (by dsimp only; rw [hs]; repeat (first | exact Sub.nil _ | refine Sub.cons rfl ?_)) (by (try dsimp only); repeat (first | exact List.Sublist.refl _ | exact List.nil_sublist _ | refine List.Sublist.cons_cons _ ?_ | refine List.Sublist.cons _ ?_))
  · skip
    refine cod_exit ?_
    refine ex_then_exit ?_
    refine ex_then_exit ?_
    refine ex_block_exit ?_
    refine ex_then ?_
    refine cod_seq ?_
    refine cod_region ?_
    refine lst_move rfl rfl ?_
    refine lst_move rfl rfl ?_
    refine lst_assign rfl rfl ?_
    refine lst_assign rfl rfl ?_
    refine lst_store rfl rfl F.ti35 rfl ?_
    refine lst_nil ?_
    refine ex_then ?_
    refine cod_ret ?_
    obtain rfl : k = 64 := by omega
    exact ex_ret_caught (fun a w ha => ⟨_, res_ttc (fn := Tryd.f54) ha rfl rfl rfl rfl F.one35, os, hk.2, rfl, ha.grown (List.nil_sublist _)⟩)

end Go.Proofs.YtofkhehcnfiopaaDoor.N
namespace Go.Proofs.YtofkhehcnfiopaaDoor.N
open Go Go.RowKit Go.Proofs
set_option linter.unusedSectionVars false
variable [I : Sys]
/-- What a melt becomes, agent by agent. -/
def alongF (ags : List Ag) (f : Nat) : List Nat → Option (List Nat)
  | [] => some []
  | i :: l => if i < ags.length ∧ mayN (ags.getD i default) f = true then (alongF ags (putN (ags.getD i default) f) l).map (putN (ags.getD i default) f :: ·) else none
theorem alongF_step {ags : List Ag} {f k i : Nat} {way l : List Nat} (hi : way[k]? = some i) (h : alongF ags f (way.drop k) = some l) :
    i < ags.length ∧ mayN (ags.getD i default) f = true ∧ ∃ l', alongF ags (putN (ags.getD i default) f) (way.drop (k + 1)) = some l' ∧ l = putN (ags.getD i default) f :: l' := by
  obtain ⟨hk, he⟩ := List.getElem?_eq_some_iff.1 hi
  rw [List.drop_eq_getElem_cons hk, he] at h
  unfold alongF at h
  split at h
  · rename_i hc
    obtain ⟨l', h1, h2⟩ := Option.map_eq_some_iff.1 h
    exact ⟨hc.1, hc.2, l', h1, h2.symm⟩
  · cases h
theorem run_eql_nilIface {t : TypeId} {P : Program} {ms} (ht : P.underlying t = some (.interface ms)) (x : Operand) (w : World) :
    (do eqGuard .eql t x (.const .nilIface) .nilIface .nilIface; binOp .eql t .nilIface .nilIface : Sem Value).run P w = .ok (.bool true) w := by
  have hg : (eqGuard .eql t x (.const .nilIface) .nilIface .nilIface).run P w = .ok () w := by simp [eqGuard]
  have hb : (binOp .eql t .nilIface .nilIface).run P w = .ok (.bool true) w := by
    show (do pure (.bool (← Op.equal t .nilIface .nilIface)) : Sem Value).run P w = _
    have he : (Op.equal t .nilIface .nilIface).run P w = .ok true w := by
      show (Op.equalIn (9999 + 1) t .nilIface .nilIface).run P w = _
      unfold Op.equalIn
      simp only [Sem.run_bind, run_underlying ht, Result.andThen_ok]
      simp
    simp only [Sem.run_bind, he, Result.andThen_ok, Sem.run_pure]
  simp only [Sem.run_bind, hg, Result.andThen_ok, hb]
end Go.Proofs.YtofkhehcnfiopaaDoor.N
namespace Go.Proofs.YtofkhehcnfiopaaDoor.N
open Go Go.RowKit Go.Proofs
set_option linter.unusedSectionVars false
variable [I : Sys]
theorem F.ent95 : Enters Tryd.prog 95 := enters_of Tryd.func95 rfl (by kernel_rfl)
theorem F.ent96 : Enters Tryd.prog 96 := enters_of Tryd.func96 rfl (by kernel_rfl)
theorem F.ti111 : TI Tryd.prog 111 (.agg [.int .i64 0, .int .i64 0].toArray) 2 16 := TI.of (by kernel_rfl)
theorem along_ok {C : Ctx} {fr : List (Nat × Value)} {T : List Res} {a : Act} {w : World} (hC : C.P = Tryd.prog) {ags : List Ag} {used f cg wc : Nat} {aA wA : Option Addr} {way outs : List Nat} (hok : Oks ags) (hf : f < 64) (hwl : way.length ≤ 20) (hal : alongF ags f way = some outs) (hB : C.w0.heap.size = C.B) (hW : RdL ncell 1 C.w0 wA way) (hAg : Res.row 89 5 aA ags.length cg (ags.flatMap Ag.cells) ∈ T) (ha : At C fr (T) a w) : Calls C.P 95 #[.agg [.slice aA ags.length cg, .int .u8 (used : Int)].toArray, .int .u8 (f : Int), .slice wA way.length wc] w fun e w' => ∃ A' c', e = .returned (.tuple #[.slice A' outs.length c', .nilIface]) ∧ At C fr (.row 3 1 A' outs.length c' (ints outs) :: T) a w' := by
  obtain ⟨P, B, w0, N0, ds⟩ := C
  obtain rfl : P = Tryd.prog := hC
  refine enter_in (N := 52) [(0, .agg [.slice aA ags.length cg, .int .u8 (used : Int)].toArray), (1, .int .u8 (f : Int)), (2, .slice wA way.length wc)] ha Tryd.func95 rfl Tryd.ntmps95 rfl rfl ?_
  refine cod_seq ?_
  refine cod_region ?_
  refine lst_box rfl rfl ?_
  intro b3
  refine lst_assign rfl rfl ?_
  refine lst_assign rfl rfl ?_
  refine lst_nil ?_
  refine ex_then ?_
  refine cod_seq ?_
  refine cod_region ?_
  refine lst_assign rfl rfl ?_
  refine lst_nil ?_
  refine ex_then ?_
  refine cod_seq ?_
  refine cod_seq ?_
  refine cod_region ?_
  refine lst_move rfl rfl ?_
  refine lst_len rfl rfl Tryd.underlying25 ?_
  refine lst_move rfl rfl ?_
  refine lst_nil ?_
  refine ex_then ?_
  refine cod_block ?_
  refine cod_nil 3 1 ?_
  refine cod_loop' (G := Nat × Nat × Option Addr × Nat × List Nat) (fun g => g.1 ≤ way.length ∧ g.2.2.2.2.length = g.1 ∧ g.2.1 < 64 ∧ ∃ l2, alongF ags g.2.1 (way.drop g.1) = some l2 ∧ outs = g.2.2.2.2 ++ l2) (fun g => way.length - g.1) (fun g => [(3, .pointer (some ⟨b3, 0, none⟩)), (1, .int .u8 (g.2.1 : Int)), (8, .slice g.2.2.1 g.2.2.2.2.length g.2.2.2.1), (11, .slice wA way.length wc), (12, .int .i64 (way.length : Int)), (13, .int .i64 (g.1 : Int))]) (fun g => .row 3 1 g.2.2.1 g.2.2.2.2.length g.2.2.2.1 (ints g.2.2.2.2) :: .blk b3 (.cells [.slice aA ags.length cg, .int .u8 (used : Int)].toArray 75 (0, 0)) :: T) (0, f, none, 0, []) ⟨Nat.zero_le _, rfl, hf, outs, hal, rfl⟩ (by repeat (first | exact Sub.nil _ | refine Sub.cons rfl ?_)) (by repeat (first | exact Pck.nil _ | exact Pck.refl _ | (apply Pck.cons; focus ((repeat (first | exact Rem.here _ | apply Rem.there)); done)) | refine Pck.skip _ ?_)) ?_
  rintro ⟨k, fk, A1, c1, l1⟩ ⟨hk, hl1, hfk, l2, hl2, hout⟩
  dsimp only at hk hl1 hfk hl2 ⊢
  refine cod_seq ?_
  refine cod_region ?_
  refine lst_int rfl rfl rfl bin_lss ?_
  refine lst_nil ?_
  refine ex_then ?_
  refine cod_seq ?_
  refine cod_cond_dec rfl (fun hc0 => ?_) (fun hc0 => ?_)
  · skip
    have hk' : k < way.length := by omega
    obtain ⟨b, o, rfl, hb, hcell⟩ := hW (by omega)
    obtain ⟨i, hwi⟩ : ∃ i, way[k]? = some i := ⟨_, List.getElem?_eq_getElem hk'⟩
    obtain ⟨hi', hmy, l3, hl3, rfl⟩ := alongF_step hwi hl2
    obtain ⟨gA, hgA⟩ := row_some (ha.own _ hAg) (show 0 < ags.length by omega)
    subst hgA
    obtain ⟨x, hx⟩ : ∃ x, ags[i]? = some x := ⟨_, List.getElem?_eq_getElem hi'⟩
    have hxo : x.ok := hok.2 x (List.mem_of_getElem? hx)
    have hxd : ags.getD i default = x := by rw [List.getD_eq_getElem?_getD, hx]; rfl
    rw [hxd] at hmy hl3 hout
    refine cod_skip ?_
    refine ex_then ?_
    refine cod_seq ?_
    refine cod_block ?_
    refine cod_seq ?_
    refine cod_region ?_
    refine lst_move rfl rfl ?_
    refine lst_index (j := k) rfl rfl rfl Tryd.underlying25 F.ti3 rfl hk' ?_
    refine lst_load_at (v := .int .i64 (i : Int)) rfl rfl F.one3 (fun a w ha => ha.old (hcell k i hwi 0 _ rfl) (Nat.lt_of_lt_of_le hb (Nat.le_of_eq hB))) ?_
    refine lst_assign rfl rfl ?_
    refine lst_assign rfl rfl ?_
    refine lst_nil ?_
    refine ex_then ?_
    refine cod_seq ?_
    refine cod_seq ?_
    refine cod_region ?_
    refine lst_move rfl rfl ?_
    refine lst_field_z rfl rfl F.fi75_0 F.ti72 ?_
    refine lst_load rfl rfl F.one72 ?_
    refine lst_len rfl rfl Tryd.underlying72 ?_
    refine lst_int rfl rfl rfl (fun w => bin_sub w (wrap_i64' _ (by omega) (by have := hok.1; omega))) ?_
    refine lst_fn0 (vs := [_, _, _]) rfl rfl F.ent99 (fun a w ha => outside_c (i : Int) 0 ((ags.length : Int) - 1) w) ?_
    refine lst_nil ?_
    refine ex_then ?_
    refine cod_cond_bool rfl (fun hc1 => ?_) (fun hc1 => ?_)
    · skip
      have : inB (i : Int) 0 ((ags.length : Int) - 1) = true := by rw [inB_true]; omega
      rw [this] at hc1; cases hc1 -- done
    · skip
      refine cod_skip ?_
      refine ex_then ?_
      refine cod_seq ?_
      refine cod_seq ?_
      refine cod_region ?_
      refine lst_field_z rfl rfl F.fi75_0 F.ti72 ?_
      refine lst_load rfl rfl F.one72 ?_
      refine lst_move rfl rfl ?_
      refine lst_index (j := i) rfl rfl rfl Tryd.underlying72 F.ti89 rfl hi' ?_
      refine lst_loadN_at (l := [.int .i64 (x.needs : Int), .int .i64 (x.no : Int), .int .i64 (x.takes : Int), .int .i64 (x.leaves : Int), .int .i64 (x.cost : Int)]) rfl rfl F.agg89 F.ti89 rfl (fun a w ha j u hu => row_at ha (e := 89) (n := ags.length) (c := cg) (cells := Ag.cells) (by simp [hAg]) (fun _ => rfl) hx hu) ?_
      refine lst_move rfl rfl ?_
      refine lst_fn0 (vs := [_, _]) rfl rfl F.ent85 (fun a w ha => may_c x fk hxo (by omega) w) ?_
      refine lst_not rfl rfl ?_
      refine lst_nil ?_
      refine ex_then ?_
      refine cod_cond_bool rfl (fun hc2 => ?_) (fun hc2 => ?_)
      · skip
        rw [hmy] at hc2; cases hc2 -- done
      · skip
        refine cod_skip ?_
        refine ex_then ?_
        refine cod_seq ?_
        refine cod_region ?_
        refine lst_field_z rfl rfl F.fi75_0 F.ti72 ?_
        refine lst_load rfl rfl F.one72 ?_
        refine lst_move rfl rfl ?_
        refine lst_index (j := i) rfl rfl rfl Tryd.underlying72 F.ti89 rfl hi' ?_
        refine lst_loadN_at (l := [.int .i64 (x.needs : Int), .int .i64 (x.no : Int), .int .i64 (x.takes : Int), .int .i64 (x.leaves : Int), .int .i64 (x.cost : Int)]) rfl rfl F.agg89 F.ti89 rfl (fun a w ha j u hu => row_at ha (e := 89) (n := ags.length) (c := cg) (cells := Ag.cells) (by simp [hAg]) (fun _ => rfl) hx hu) ?_
        refine lst_move rfl rfl ?_
        refine lst_fn0 (vs := [_, _]) rfl rfl F.ent91 (fun a w ha => put_c x fk hxo (by omega) w) ?_
        refine lst_assign rfl rfl ?_
        refine lst_nil ?_
        refine ex_then ?_
        refine cod_region ?_
        refine lst_move rfl rfl ?_
        refine lst_move rfl rfl ?_
        refine lst_convert rfl rfl Tryd.underlying77 Tryd.underlying3 (wrap_i64' _ (by omega) (by have := putN_lt hxo hfk; omega)) ?_
        refine lst_lit (vs := [(0, _)]) rfl rfl Tryd.underlying25 F.ti3 rfl rfl rfl ?_
        intro b48
        refine lst_append rfl rfl rfl Tryd.underlying25 F.ti3 rfl rfl rfl (by unfold maxLen; omega) (by omega) ?_
        intro A2 c2
        refine lst_assign rfl rfl ?_
        refine lst_nil ?_
        refine ex_block_normal ?_
        refine ex_then ?_
        refine cod_region ?_
        refine lst_int rfl rfl rfl (fun w => bin_add w (wrap_i64' _ (by omega) (by omega))) ?_
        refine lst_move rfl rfl ?_
        refine lst_nil ?_
        refine ex_round' (k + 1, putN x fk, A2, c2, l1 ++ [putN x fk]) ⟨by omega, by simp; omega, putN_lt hxo hfk, l3, hl3, by rw [hout, List.append_assoc]; rfl⟩ (by (try dsimp only); omega) (by dsimp only; rw [List.length_append, List.length_singleton]; repeat (first | exact Sub.nil _ | refine Sub.cons rfl ?_)) (by dsimp only; rw [List.length_append, List.length_singleton, ints_snoc]; repeat (first | exact Pck.nil _ | exact Pck.refl _ | (apply Pck.cons; focus ((repeat (first | exact Rem.here _ | apply Rem.there)); done)) | refine Pck.skip _ ?_))
  · skip
    refine cod_exit ?_
    refine ex_then_exit ?_
    refine ex_then_exit ?_
    refine ex_block_exit ?_
    refine ex_then ?_
    refine cod_seq ?_
    refine cod_region ?_
    refine lst_move rfl rfl ?_
    refine lst_assign rfl rfl ?_
    refine lst_assign rfl rfl ?_
    refine lst_nil ?_
    refine ex_then ?_
    refine cod_ret ?_
    obtain rfl : k = way.length := by omega
    rw [List.drop_length] at hl2
    obtain rfl : l2 = [] := (Option.some.inj hl2).symm
    rw [List.append_nil] at hout
    subst hout
    exact ex_ret rfl (fun a w ha => res_two rfl rfl rfl ha) (fun _ _ ha' => ⟨A1, c1, rfl, ha.back (ha'.pck (by repeat (first | exact Pck.nil _ | exact Pck.refl _ | (apply Pck.cons; focus ((repeat (first | exact Rem.here _ | apply Rem.there)); done)) | refine Pck.skip _ ?_)))⟩)

theorem as_nil (v : Value) (w : World) : Calls Tryd.prog 96 #[.nilIface, v] w fun e w' => e = .returned (.bool false) ∧ Grew w w' [] := by
  refine enter (N := 42) [(0, .nilIface), (1, v)] Tryd.func96 rfl Tryd.ntmps96 rfl rfl ?_
  refine cod_seq ?_
  refine cod_region ?_
  refine lst_assign rfl rfl ?_
  refine lst_nil ?_
  refine ex_then ?_
  refine cod_seq ?_
  refine cod_seq ?_
  refine cod_region ?_
  refine lst_move rfl rfl ?_
  refine lst_bin rfl rfl rfl (run_eql_nilIface Tryd.underlying107 _) ?_
  refine lst_nil ?_
  refine ex_then ?_
  refine cod_cond_true rfl ?_
  refine cod_seq ?_
  refine cod_region ?_
  refine lst_assign rfl rfl ?_
  refine lst_nil ?_
  refine ex_then ?_
  refine cod_ret ?_
  refine ex_then_ret ?_
  exact ex_ret rfl (fun a w ha => res_one rfl rfl ha) (fun a w ha => ⟨rfl, ha.grown (List.nil_sublist _)⟩)

theorem Put_ok (A : Option Addr) (c : Nat) (ags : List Ag) (hok : Oks ags) (wA : Option Addr) (wc f : Nat) (way outs : List Nat) (hf : f < 64) (hwl : way.length ≤ 20) (hal : alongF ags f way = some outs) (w : World) (hA : RdL Ag.cells 5 w A ags) (hW : RdL ncell 1 w wA way) : Calls Tryd.prog 40 #[.slice A ags.length c, .int .i64 (f : Int), .slice wA way.length wc] w fun e w' => ∃ A' c', e = .returned (.tuple #[.slice A' outs.length c', .int .i64 0]) ∧ Grew w w' [.row 3 1 A' outs.length c' (ints outs)] := by
  have hua : usedAll ags.length < 256 := by have := usedAll_lt hok.1; omega
  refine enter_defers (N := 32) [(0, .slice A ags.length c), (1, .int .i64 (f : Int)), (2, .slice wA way.length wc)] Tryd.func40 rfl Tryd.ntmps40 rfl rfl ?_
  refine cod_seq ?_
  refine cod_region ?_
  refine lst_assign rfl rfl ?_
  refine lst_alloc rfl F.ti35 ?_
  intro b7
  refine lst_nil ?_
  refine ex_then ?_
  refine cod_seq ?_
  refine cod_region ?_
  refine lst_defer (first := []) (cap := []) (vs := [_]) rfl rfl ?_
  refine lst_nil ?_
  refine ex_then ?_
  refine cod_seq ?_
  refine cod_region ?_
  refine lst_move rfl rfl ?_
  refine lst_fn (X := Option Addr × Nat) (vs := [_]) (p := fun _ => True) (val := fun x => .agg [.slice x.1 ags.length x.2, .int .u8 (usedAll ags.length : Nat)].toArray) (rs := fun x => [.row 89 5 x.1 ags.length x.2 (ags.flatMap Ag.cells)]) rfl rfl F.ent75 (fun a w ha => (begin_ok A c ags hok w (hA.later ha.below)).mono (fun e w' h => by obtain ⟨A', c', h1, h2⟩ := h; exact ⟨(A', c'), trivial, h1, h2⟩)) ?_
  rintro ⟨aA, cg⟩ -
  dsimp only [List.cons_append, List.nil_append]
  refine lst_alloc rfl F.ti75 ?_
  intro b8
  refine lst_store rfl rfl F.ti75 rfl ?_
  refine lst_nil ?_
  refine ex_then ?_
  refine cod_seq ?_
  refine cod_region ?_
  refine lst_move rfl rfl ?_
  refine lst_fn0 (vs := [_]) rfl rfl F.ent76 (fun a w ha => melt_ok f hf w) ?_
  refine lst_assign rfl rfl ?_
  refine lst_nil ?_
  refine ex_then ?_
  refine cod_seq ?_
  refine cod_seq ?_
  refine cod_region ?_
  refine lst_move rfl rfl ?_
  refine lst_len rfl rfl Tryd.underlying25 ?_
  refine lst_int rfl rfl rfl bin_gtr ?_
  refine lst_nil ?_
  refine ex_then ?_
  refine cod_cond_dec rfl (fun hc0 => ?_) (fun hc0 => ?_)
  · skip
    exact absurd hc0 (by omega) -- done
  · skip
    refine cod_skip ?_
    refine ex_then ?_
    refine cod_seq ?_
    refine cod_region ?_
    refine lst_loadN rfl rfl F.agg75 F.ti75 ?_
    refine lst_move rfl rfl ?_
    refine lst_move rfl rfl ?_
    refine lst_call (X := Option Addr × Nat) (first := []) (cap := []) (vs := [_, _, _]) (p := fun _ => True) (val := fun x => .tuple #[.slice x.1 outs.length x.2, .nilIface]) (rs := fun x => .row 3 1 x.1 outs.length x.2 (ints outs) :: .blk b8 (.cells [.slice aA ags.length cg, .int .u8 (usedAll ags.length : Nat)].toArray 75 (0, 0)) :: .row 89 5 aA ags.length cg (ags.flatMap Ag.cells) :: [.blk b7 (.cells [.int .i64 0].toArray 35 (0, 0))]) rfl rfl rfl F.ent95 (fun a w ha => (along_ok rfl hok hf hwl hal rfl hW (by simp) ha).mono (fun e w' h => by obtain ⟨A', c', h1, h2⟩ := h; exact ⟨(A', c'), trivial, h1, h2⟩)) ?_
    rintro ⟨A1, c1⟩ -
    dsimp only
    refine lst_move rfl rfl ?_
    refine lst_extract rfl rfl rfl ?_
    refine lst_extract rfl rfl rfl ?_
    refine lst_assign rfl rfl ?_
    refine lst_assign rfl rfl ?_
    refine lst_nil ?_
    refine ex_then ?_
    refine cod_seq ?_
    refine cod_region ?_
    refine lst_alloc rfl F.ti111 ?_
    intro b11
    refine lst_nil ?_
    refine ex_then ?_
    refine cod_seq ?_
    refine cod_seq ?_
    refine cod_region ?_
    refine lst_move rfl rfl ?_
    refine lst_makeInterface rfl rfl Tryd.underlying113 rfl ?_
    refine lst_fn0 (vs := [_, _]) rfl rfl F.ent96 (fun a w ha => as_nil _ w) ?_
    refine lst_nil ?_
    refine ex_then ?_
    refine cod_cond_false rfl ?_
    refine cod_skip ?_
    refine ex_then ?_
    refine cod_seq ?_
    refine cod_region ?_
    refine lst_move rfl rfl ?_
    refine lst_assign rfl rfl ?_
    refine lst_store rfl rfl F.ti35 rfl ?_
    refine lst_nil ?_
    refine ex_then ?_
    refine cod_ret ?_
    exact ex_ret_caught (fun a w ha => ⟨_, res_tc (fn := Tryd.f40) ha rfl rfl rfl F.one35, A1, c1, rfl, ha.grown (by repeat (first | exact List.Sublist.refl _ | exact List.nil_sublist _ | refine List.Sublist.cons_cons _ ?_ | refine List.Sublist.cons _ ?_))⟩)

end Go.Proofs.YtofkhehcnfiopaaDoor.N
namespace Go.Proofs.YtofkhehcnfiopaaDoor.N
open Go Go.RowKit Go.Proofs
set_option linter.unusedSectionVars false
variable [I : Sys]
/-- What it costs to clear a melt. -/
structure Pr where
  cost : Nat
  puts : Nat
  known : Bool
  deriving DecidableEq, Inhabited
def Pr.cells (p : Pr) : List Value := [.int .i64 (p.cost : Int), .int .i64 (p.puts : Int), .bool p.known]
def lessP (a b : Pr) : Bool := a.known && (!b.known || decide (a.cost < b.cost) || (decide (a.cost = b.cost) && decide (a.puts < b.puts)))
def afterP (ps : List Pr) (x : Ag) (f : Nat) : Pr := { cost := (ps.getD (putN x f) default).cost + x.cost, puts := (ps.getD (putN x f) default).puts + 1, known := (ps.getD (putN x f) default).known }
/-- One agent looked at for one melt. -/
def relax (ags : List Ag) (f : Nat) (s : List Pr × Bool) (i : Nat) : List Pr × Bool :=
  if lessP (afterP s.1 (ags.getD i default) f) (s.1.getD f default) = true then (s.1.set f (afterP s.1 (ags.getD i default) f), true) else s
def relaxF (ags : List Ag) (f : Nat) (s : List Pr × Bool) (l : List Nat) : List Pr × Bool := l.foldl (relax ags f) s
/-- A round over the first melts. -/
def roundP (ags : List Ag) (used : Nat) (ps : List Pr) : Nat → List Pr × Bool
  | 0 => (ps, false)
  | f + 1 => relaxF ags f (roundP ags used ps f) (canTo ags used f ags.length)
def initP (p : Nat) (k : Nat) : List Pr := (List.range 64).map fun n => if n < k then ⟨0, 0, decide (nn n p = 0)⟩ else ⟨0, 0, false⟩
def iterP (ags : List Ag) (used p : Nat) : Nat → List Pr
  | 0 => initP p 64
  | j + 1 => (roundP ags used (iterP ags used p j) 64).1
/-- Prices that are not too high. -/
def Bd (ps : List Pr) (m : Nat) : Prop := ps.length = 64 ∧ ∀ p ∈ ps, p.puts ≤ m ∧ p.cost ≤ 9 * m
theorem Bd.get {ps : List Pr} {m : Nat} (h : Bd ps m) (k : Nat) : (ps.getD k default).puts ≤ m ∧ (ps.getD k default).cost ≤ 9 * m := by
  rw [List.getD_eq_getElem?_getD]
  cases hk : ps[k]? with
  | none => exact ⟨Nat.zero_le _, Nat.zero_le _⟩
  | some p => exact h.2 p (List.mem_of_getElem? hk)
theorem Bd.mono {ps : List Pr} {m m' : Nat} (h : Bd ps m) (hm : m ≤ m') : Bd ps m' := ⟨h.1, fun p hp => by have := h.2 p hp; omega⟩
theorem Bd.after {ps : List Pr} {m : Nat} (h : Bd ps m) {x : Ag} (hx : x.cost ≤ 9) (f : Nat) : (afterP ps x f).puts ≤ m + 1 ∧ (afterP ps x f).cost ≤ 9 * (m + 1) := by
  have := h.get (putN x f)
  unfold afterP
  dsimp only
  omega
theorem Bd.set {ps : List Pr} {m : Nat} (h : Bd ps m) {p : Pr} (hp : p.puts ≤ m ∧ p.cost ≤ 9 * m) (f : Nat) : Bd (ps.set f p) m :=
  ⟨by rw [List.length_set]; exact h.1, fun q hq => by
    rcases List.mem_or_eq_of_mem_set hq with h1 | h1
    · exact h.2 q h1
    · subst h1; exact hp⟩
theorem Bd.init (p k : Nat) : Bd (initP p k) 0 := by
  refine ⟨by simp [initP], fun q hq => ?_⟩
  unfold initP at hq
  obtain ⟨n, _, rfl⟩ := List.mem_map.1 hq
  split <;> exact ⟨Nat.le_refl _, Nat.le_refl _⟩
theorem initP_set (p : Nat) {k : Nat} (hk : k < 64) : (initP p k).set k ⟨0, 0, decide (nn k p = 0)⟩ = initP p (k + 1) := by
  unfold initP
  apply List.ext_getElem?
  intro i
  rw [List.getElem?_set]
  by_cases hi : i < 64
  · by_cases e : k = i
    · subst e
      simp [hk]
    · have : (i < k + 1) ↔ (i < k) := by omega
      simp [e, hi, this]
  · have e : ¬ k = i := by omega
    simp [e, hi]
theorem initP_get (p : Nat) {k : Nat} (hk : k < 64) : (initP p k)[k]? = some ⟨0, 0, false⟩ := by
  unfold initP
  simp [hk]
theorem Bd.relax {ags : List Ag} {f m : Nat} {s : List Pr × Bool} (h : Bd s.1 m) {i : Nat} (hx : (ags.getD i default).cost ≤ 9) : Bd (relax ags f s i).1 (m + 1) := by
  unfold Go.Proofs.YtofkhehcnfiopaaDoor.N.relax
  split
  · exact (h.mono (Nat.le_succ _)).set (h.after hx f) f
  · exact h.mono (Nat.le_succ _)
theorem Bd.relaxF {ags : List Ag} {f : Nat} (hok : ∀ x ∈ ags, x.ok) : ∀ (l : List Nat) (m : Nat) (s : List Pr × Bool), Bd s.1 m → Bd (Go.Proofs.YtofkhehcnfiopaaDoor.N.relaxF ags f s l).1 (m + l.length) := by
  intro l
  induction l with
  | nil => intro m s h; exact h
  | cons i l ih =>
    intro m s h
    have h1 : (ags.getD i default).cost ≤ 9 := by
      rw [List.getD_eq_getElem?_getD]
      cases hk : ags[i]? with
      | none => exact Nat.zero_le _
      | some x => exact (hok x (List.mem_of_getElem? hk)).cost.2
    have := ih (m + 1) _ (h.relax (f := f) h1)
    unfold Go.Proofs.YtofkhehcnfiopaaDoor.N.relaxF at this ⊢
    rw [List.foldl_cons, List.length_cons]
    exact this.mono (by omega)
/-- The cells of a market. -/
def mcells (fn : Value) (ps : List Pr) : List Value := fn :: ps.flatMap Pr.cells
theorem mcells_len (fn : Value) (ps : List Pr) : (mcells fn ps).length = 1 + ps.length * 3 := by
  have : ∀ l : List Pr, (l.flatMap Pr.cells).length = l.length * 3 := by
    intro l
    induction l with
    | nil => rfl
    | cons p l ih => rw [List.flatMap_cons, List.length_append, ih, List.length_cons]; simp [Pr.cells]; omega
  unfold mcells
  rw [List.length_cons, this]
  omega
theorem mcells_get (fn : Value) (ps : List Pr) {k j : Nat} {p : Pr} {u : Value} (hk : ps[k]? = some p) (hu : p.cells[j]? = some u) : (mcells fn ps)[1 + k * 3 + j]? = some u := by
  unfold mcells
  rw [show 1 + k * 3 + j = (k * 3 + j) + 1 by omega, List.getElem?_cons_succ]
  exact flatMap_get (cells := Pr.cells) (size := 3) (fun _ => rfl) ps k p hk j u hu
theorem flatMap_set (ps : List Pr) : ∀ (k : Nat) (p : Pr), k < ps.length → (ps.flatMap Pr.cells).take (k * 3) ++ p.cells ++ (ps.flatMap Pr.cells).drop (k * 3 + 3) = (ps.set k p).flatMap Pr.cells := by
  induction ps with
  | nil => intro k p h; cases h
  | cons q ps ih =>
    intro k p h
    cases k with
    | zero => simp [Pr.cells]
    | succ k =>
      have := ih k p (by simpa using h)
      rw [List.set_cons_succ, List.flatMap_cons, List.flatMap_cons, ← this]
      have hq : q.cells.length = 3 := rfl
      have e1 : (q.cells ++ ps.flatMap Pr.cells).take ((k + 1) * 3) = q.cells ++ (ps.flatMap Pr.cells).take (k * 3) := by
        rw [show (k + 1) * 3 = q.cells.length + k * 3 by omega, List.take_length_add_append]
      have e2 : (q.cells ++ ps.flatMap Pr.cells).drop ((k + 1) * 3 + 3) = (ps.flatMap Pr.cells).drop (k * 3 + 3) := by
        rw [show (k + 1) * 3 + 3 = q.cells.length + (k * 3 + 3) by omega, List.drop_length_add_append]
      rw [e1, e2]
      simp only [List.append_assoc]
/-- A price put into a market: three cells. -/
theorem mcells_splice (fn : Value) (ps : List Pr) {k : Nat} (hk : k < ps.length) (p : Pr) : Splice (mcells fn ps) (1 + k * 3) p.cells (mcells fn (ps.set k p)) := ⟨by
  unfold mcells
  rw [← flatMap_set ps k p hk]
  rw [show 1 + k * 3 = k * 3 + 1 by omega, show k * 3 + 1 + p.cells.length = (k * 3 + 3) + 1 from rfl]
  simp, by
  rw [mcells_len]
  show 1 + k * 3 + 3 ≤ _
  omega⟩
/-- Whether it is known, put into a market. -/
theorem mcells_known (fn : Value) (ps : List Pr) {k : Nat} {p : Pr} (hk : ps[k]? = some p) (b : Bool) : mcells fn (ps.set k { p with known := b }) = (mcells fn ps).set (1 + k * 3 + 2) (.bool b) := by
  have hlt := (List.getElem?_eq_some_iff.1 hk).1
  have h := (mcells_splice fn ps hlt { p with known := b }).eq
  rw [h]
  have hg0 := mcells_get fn ps (j := 0) hk rfl
  have hg1 := mcells_get fn ps (j := 1) hk rfl
  have hl := mcells_len fn ps
  apply List.ext_getElem?
  intro i
  rw [List.getElem?_set]
  have hl1 : ((mcells fn ps).take (1 + k * 3)).length = 1 + k * 3 := by rw [List.length_take, hl]; omega
  have hc : ({ p with known := b } : Pr).cells = [.int .i64 (p.cost : Int), .int .i64 (p.puts : Int), .bool b] := rfl
  rw [hc]
  by_cases h1 : i < 1 + k * 3
  · rw [List.append_assoc, List.getElem?_append_left (by omega), if_neg (by omega), List.getElem?_take, if_pos h1]
  · by_cases h2 : i < 1 + k * 3 + 3
    · rw [List.getElem?_append_left (by simp [hl1]; omega), List.getElem?_append_right (by omega), hl1]
      rcases (show i = 1 + k * 3 ∨ i = 1 + k * 3 + 1 ∨ i = 1 + k * 3 + 2 by omega) with e | e | e
      · subst e
        rw [if_neg (by omega), Nat.sub_self]
        rw [Nat.add_zero] at hg0
        rw [hg0]; rfl
      · subst e
        rw [if_neg (by omega), hg1, show 1 + k * 3 + 1 - (1 + k * 3) = 1 by omega]; rfl
      · subst e
        rw [if_pos rfl, if_pos (by omega), show 1 + k * 3 + 2 - (1 + k * 3) = 2 by omega]; rfl
    · rw [List.getElem?_append_right (by simp [hl1]; omega), if_neg (by omega), List.getElem?_drop]
      congr 1
      simp [hl1]; omega
end Go.Proofs.YtofkhehcnfiopaaDoor.N
namespace Go.Proofs.YtofkhehcnfiopaaDoor.N
open Go Go.RowKit Go.Proofs
set_option linter.unusedSectionVars false
variable [I : Sys]
theorem lst_know {C : Ctx} {fr : List (Nat × Value)} {hp : List Res} {ops : Array Oper} {Q : Exit → Act → World → Prop} {l : List Oper} {φ : Prop} (h : ∀ a w, At C fr hp a w → φ) (k : φ → Lst C ops Q l fr hp) : Lst C ops Q l fr hp := fun a w ha => k (h a w ha) a w ha
theorem cod_know {C : Ctx} {fr : List (Nat × Value)} {hp : List Res} {Q : Exit → Act → World → Prop} {c : Code} {φ : Prop} (h : ∀ a w, At C fr hp a w → φ) (k : φ → Cod C c Q fr hp) : Cod C c Q fr hp := fun a w ha => k (h a w ha) a w ha
theorem mcells_box (fn : Value) (hf : fn.oneCell' = true) (ps : List Pr) : Cells (.agg (mcells fn ps).toArray) (mcells fn ps) := ⟨rfl, by
  intro u hu
  unfold mcells at hu
  rcases List.mem_cons.1 hu with h | h
  · subst h; exact hf
  · obtain ⟨p, _, hp⟩ := List.mem_flatMap.1 h
    simp [Pr.cells] at hp
    rcases hp with h | h | h <;> subst h <;> simp [Value.oneCell']⟩
theorem ints_get {l : List Nat} {t i : Nat} (h : l[t]? = some i) : (ints l)[t * 1]? = some (.int .i64 (i : Int)) := by
  rw [Nat.mul_one]
  unfold ints
  rw [List.getElem?_map, h]; rfl
theorem Bd.round {ags : List Ag} {used m : Nat} {ps : List Pr} (hok : Oks ags) (h : Bd ps m) : ∀ k, Bd (roundP ags used ps k).1 (m + 4 * k)
  | 0 => h
  | k + 1 => by
    have h1 := Bd.relaxF (f := k) hok.2 (canTo ags used k ags.length) _ _ (Bd.round (used := used) hok h k)
    have h2 := canTo_len ags used k ags.length
    have h3 := hok.1
    exact h1.mono (by omega)
theorem Bd.iter {ags : List Ag} {used p : Nat} (hok : Oks ags) : ∀ j, Bd (iterP ags used p j) (256 * j)
  | 0 => Bd.init p 64
  | j + 1 => (Bd.round (used := used) hok (Bd.iter (used := used) (p := p) hok j) 64).mono (by omega)
theorem Bd.at {ags : List Ag} {used p : Nat} (hok : Oks ags) (j k t : Nat) (ht : t ≤ 4) : Bd (Go.Proofs.YtofkhehcnfiopaaDoor.N.relaxF ags k (roundP ags used (iterP ags used p j) k) ((canTo ags used k ags.length).take t)).1 (256 * j + 4 * k + 4) := by
  have h1 := Bd.relaxF (f := k) hok.2 ((canTo ags used k ags.length).take t) _ _ (Bd.round (used := used) hok (Bd.iter (used := used) (p := p) hok j) k)
  exact h1.mono (by rw [List.length_take]; omega)
theorem relaxF_snoc {ags : List Ag} {f t i : Nat} {s : List Pr × Bool} {l : List Nat} (h : l[t]? = some i) : relaxF ags f s (l.take (t + 1)) = relax ags f (relaxF ags f s (l.take t)) i := by
  unfold relaxF
  rw [List.take_add_one, h, List.foldl_append]; rfl
theorem canTo_mem {ags : List Ag} {used f k i : Nat} (h : i ∈ canTo ags used f k) : i < k ∧ used.testBit i = true ∧ mayN (ags.getD i default) f = true := by
  unfold canTo at h
  obtain ⟨h1, h2⟩ := List.mem_filter.1 h
  have := List.mem_range.1 h1
  simp at h2
  exact ⟨this, h2⟩
theorem getD_some {ps : List Pr} {k : Nat} (hk : k < ps.length) : ps[k]? = some (ps.getD k default) := by
  rw [List.getD_eq_getElem?_getD, List.getElem?_eq_getElem hk]; rfl
end Go.Proofs.YtofkhehcnfiopaaDoor.N
