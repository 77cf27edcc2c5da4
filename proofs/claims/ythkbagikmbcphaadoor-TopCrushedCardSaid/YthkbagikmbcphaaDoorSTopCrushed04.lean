/- Parts of the walk of the law TopCrushed: T7, T8, TopO, TopQ, T9, TopCa, T10, T11, TopM, TopN, Sx8. -/
import Derived.Test.YthkbagikmbcphaaDoorSTopCrushed03
import Derived.Test.YthkbagikmbcphaaDoorProg
import Derived.Test.YthkbagikmbcphaaDoorSTopCrushed00
import Derived.Test.YthkbagikmbcphaaDoorSTopCrushed01
import Derived.Test.YthkbagikmbcphaaDoorSTopCrushed02
import Derived.Deep.LoopGhost
import Derived.DeepKeys3
import Derived.OrdersHeld
import Derived.ScopeJumps
import Derived.WalkKit
import Derived.WalkLawsBesides
namespace Go.Proofs.YthkbagikmbcphaaDoor.N
open Go Go.RowKit Go.Proofs
theorem F.agg154 : aggB Tryd.prog 154 = true := by unfold aggB; rw [Tryd.underlying154]
theorem F.agg94 : aggB Tryd.prog 94 = true := by unfold aggB; rw [Tryd.underlying94]
theorem F.ent66 : Enters Tryd.prog 66 := enters_of Tryd.func66 rfl (by kernel_rfl)
theorem F.one157 : One Tryd.prog 157 := ⟨by unfold aggB; rw [Tryd.underlying157], by rw [Tryd.underlying157]; simp⟩
theorem F.ti154 : TI Tryd.prog 154 (.agg [.pointer none, .pointer none, .int .u64 0].toArray) 3 24 := TI.of (by kernel_rfl)
theorem as_nil (v : Value) (w : World) : Calls Tryd.prog 51 #[.nilIface, v] w fun e w' => e = .returned (.bool false) ∧ Grew w w' [] := by
  refine enter (N := 42) [(0, .nilIface), (1, v)] Tryd.func51 rfl Tryd.ntmps51 rfl rfl ?_
  refine cod_seq ?_
  refine cod_region ?_
  refine lst_assign rfl rfl ?_
  refine lst_nil ?_
  refine ex_then ?_
  refine cod_seq ?_
  refine cod_seq ?_
  refine cod_region ?_
  refine lst_move rfl rfl ?_
  refine lst_bin rfl rfl rfl (run_eql_nilIface Tryd.underlying104 _) ?_
  refine lst_nil ?_
  refine ex_then ?_
  refine cod_cond_true rfl ?_
  refine cod_seq ?_
  refine cod_region ?_
  refine lst_assign rfl rfl ?_
  refine lst_nil ?_
  refine ex_then ?_
  refine cod_ret ?_
  refine ex_then_ret ?_
  exact ex_ret rfl (fun a w ha => res_one rfl rfl ha) (fun a w ha => ⟨rfl, ha.grown (List.nil_sublist _)⟩)

set_option maxRecDepth 100000 in
theorem as_hit {C : Ctx} {fr : List (Nat × Value)} {T : List Res} {a : Act} {w : World} (hC : C.P = Tryd.prog) {bt bp : Nat} {x x0 : Int} (ha : At C fr (.blk bt (.cells [.int .i64 x0].toArray 94 (0, 0)) :: .blk bp (.cells [.pointer (some ⟨bt, 0, none⟩)].toArray 128 (0, 0)) :: T) a w) : Calls C.P 66 #[.iface 94 (.agg [.int .i64 x].toArray), .iface 128 (.pointer (some ⟨bt, 0, none⟩)), (Value.agg (([.pointer (some ⟨1, 128, none⟩), .pointer (some ⟨bp, 0, none⟩), .int .u64 150] : List Value)).toArray), iT 94] w fun e w' => e = .returned (.bool true) ∧ At C fr (.blk bt (.cells [.int .i64 x].toArray 94 (0, 0)) :: .blk bp (.cells [.pointer (some ⟨bt, 0, none⟩)].toArray 128 (0, 0)) :: T) a w' := by
  obtain ⟨P, B, w0, N0, ds⟩ := C
  obtain rfl : P = Tryd.prog := hC
  (try dsimp only at hB)
  (try dsimp only at hN)
  refine enter_in (N := 62) [(0, .iface 94 (.agg [.int .i64 x].toArray)), (1, .iface 128 (.pointer (some ⟨bt, 0, none⟩))), (2, (Value.agg (([.pointer (some ⟨1, 128, none⟩), .pointer (some ⟨bp, 0, none⟩), .int .u64 150] : List Value)).toArray)), (3, iT 94)] ha Tryd.func66 rfl Tryd.ntmps66 rfl rfl ?_
  refine cod_seq ?_
  refine cod_region ?_
  refine lst_box rfl rfl ?_
  intro b6
  refine lst_assign rfl rfl ?_
  refine lst_nil ?_
  refine ex_then ?_
  refine cod_block ?_
  refine cod_loop' (G := Nat) (fun g => g = 0) (fun g => 0) (fun g => [(0, .iface 94 (.agg [.int .i64 x].toArray)), (1, .iface 128 (.pointer (some ⟨bt, 0, none⟩))), (3, iT 94), (6, .pointer (some ⟨b6, 0, none⟩))]) (fun g => .blk b6 (.cells [.pointer (some ⟨1, 128, none⟩), .pointer (some ⟨bp, 0, none⟩), .int .u64 150].toArray 154 (0, 0)) :: .blk bt (.cells [.int .i64 x0].toArray 94 (0, 0)) :: .blk bp (.cells [.pointer (some ⟨bt, 0, none⟩)].toArray 128 (0, 0)) :: T) (0) rfl (by repeat (first | exact Sub.nil _ | refine Sub.cons rfl ?_)) (by repeat (first | exact Pck.nil _ | exact Pck.refl _ | (apply Pck.cons; focus ((repeat (first | exact Rem.here _ | apply Rem.there)); done)) | refine Pck.skip _ ?_)) ?_
  rintro k hk0
  (try try dsimp only at hk0 ⊢)
  refine cod_block ?_
  refine cod_seq ?_
  refine cod_seq ?_
  refine cod_region ?_
  refine lst_move rfl rfl ?_
  refine lst_prim (X := Unit) (vs := [_]) (val := fun _ => iT 94) (rs := fun _ => .blk b6 (.cells [.pointer (some ⟨1, 128, none⟩), .pointer (some ⟨bp, 0, none⟩), .int .u64 150].toArray 154 (0, 0)) :: .blk bt (.cells [.int .i64 x0].toArray 94 (0, 0)) :: .blk bp (.cells [.pointer (some ⟨bt, 0, none⟩)].toArray 128 (0, 0)) :: T) rfl rfl rfl (fun a w ha => ⟨(), w, As.c128 (As.typeOf111 _ w), ha⟩) ?_
  rintro ⟨⟩
  (try dsimp only)
  refine lst_move rfl rfl ?_
  refine lst_method (vs := [_]) rfl rfl rfl (fun w => As.methodAssignableTo _ w) (fun w => As.c154 (As.assignable111 w)) ?_
  refine lst_nil ?_
  refine ex_then ?_
  refine cod_cond_true rfl ?_
  refine cod_seq ?_
  refine cod_region ?_
  refine lst_loadN rfl rfl F.agg154 F.ti154 ?_
  refine lst_prim (X := Unit) (vs := [_]) (val := fun _ => (Value.agg (([.pointer (some ⟨1, 94, none⟩), .pointer (some ⟨bt, 0, none⟩), .int .u64 409] : List Value)).toArray)) (rs := fun _ => .blk b6 (.cells [.pointer (some ⟨1, 128, none⟩), .pointer (some ⟨bp, 0, none⟩), .int .u64 150].toArray 154 (0, 0)) :: .blk bt (.cells [.int .i64 x0].toArray 94 (0, 0)) :: .blk bp (.cells [.pointer (some ⟨bt, 0, none⟩)].toArray 128 (0, 0)) :: T) rfl rfl rfl (fun a w ha => ⟨(), w, As.c129 (As.elemV113 ⟨bp, 0, none⟩ ⟨bt, 0, none⟩ w (cell_of_blk (ha.mem_blk (InB.mem (b := bp))) rfl)), ha⟩) ?_
  rintro ⟨⟩
  (try dsimp only)
  refine lst_move rfl rfl ?_
  refine lst_prim (X := Nat) (vs := [_]) (val := fun b => (Value.agg (([.pointer (some ⟨1, 94, none⟩), .pointer (some ⟨b, 0, none⟩), .int .u64 153] : List Value)).toArray)) (rs := fun b => .blk b (.cells [.int .i64 x].toArray 94 (0, 0)) :: .blk b6 (.cells [.pointer (some ⟨1, 128, none⟩), .pointer (some ⟨bp, 0, none⟩), .int .u64 150].toArray 154 (0, 0)) :: .blk bt (.cells [.int .i64 x0].toArray 94 (0, 0)) :: .blk bp (.cells [.pointer (some ⟨bt, 0, none⟩)].toArray 128 (0, 0)) :: T) rfl rfl rfl (fun a w ha => ⟨w.heap.size, _, As.c117 (As.valueOf111 x w), ha.alloc (.cells [.int .i64 x].toArray 94)⟩) ?_
  intro b
  (try dsimp only)
  refine lst_prim (X := Unit) (vs := [_, _]) (val := fun _ => .tuple #[]) (rs := fun _ => .blk b (.cells [.int .i64 x].toArray 94 (0, 0)) :: .blk b6 (.cells [.pointer (some ⟨1, 128, none⟩), .pointer (some ⟨bp, 0, none⟩), .int .u64 150].toArray 154 (0, 0)) :: .blk bt (.cells [.int .i64 x].toArray 94 (0, 0)) :: .blk bp (.cells [.pointer (some ⟨bt, 0, none⟩)].toArray 128 (0, 0)) :: T) rfl rfl rfl (fun a w ha => by
    obtain ⟨w', h1, h2⟩ := ha.store_blk (ty := 94) (t := 94) (b := bt) (cs := [.int .i64 x0]) (vs := [.int .i64 x]) F.ti94 (.tail _ (.tail _ (.head _)))
    have hl := run_loadVar_blk (ct := 94) (b := b) (l := [.int .i64 x]) ha F.agg94 F.ti94 rfl
    have hs := As.set111 ⟨bt, 0, none⟩ ⟨b, 0, none⟩ (.agg [.int .i64 x].toArray) w w' hl h1
    exact ⟨(), w', As.c130 hs, h2⟩) ?_
  rintro ⟨⟩
  (try dsimp only)
  refine lst_nil ?_
  refine ex_then ?_
  refine cod_seq ?_
  refine cod_region ?_
  refine lst_assign rfl rfl ?_
  refine lst_nil ?_
  refine ex_then ?_
  refine cod_ret ?_
  refine ex_then_ret ?_
  refine ex_block_ret ?_
  refine ex_then_ret ?_
  refine ex_block_ret ?_
  exact ex_ret rfl (fun a w ha => res_one rfl rfl ha) (fun _ _ ha' => ⟨rfl, ha.back (ha'.pck (by repeat (first | exact Pck.nil _ | exact Pck.refl _ | (apply Pck.cons; focus ((repeat (first | exact Rem.here _ | apply Rem.there)); done)) | refine Pck.skip _ ?_)))⟩)

theorem As_hit {C : Ctx} {fr : List (Nat × Value)} {T : List Res} {a : Act} {w : World} (hC : C.P = Tryd.prog) {bt : Nat} {x x0 : Int} (hB : C.w0.heap.size = C.B) (hB0 : 0 < C.B) (hE : C.w0.cell? ⟨0, 0, none⟩ = some (iT 104)) (ha : At C fr (.blk bt (.cells [.int .i64 x0].toArray 94 (0, 0)) :: T) a w) : Calls C.P 51 #[.iface 94 (.agg [.int .i64 x].toArray), .iface 128 (.pointer (some ⟨bt, 0, none⟩))] w fun e w' => e = .returned (.bool true) ∧ At C fr (.blk bt (.cells [.int .i64 x].toArray 94 (0, 0)) :: T) a w' := by
  obtain ⟨P, B, w0, N0, ds⟩ := C
  obtain rfl : P = Tryd.prog := hC
  (try dsimp only at hB)
  (try dsimp only at hN)
  refine enter_in (N := 42) [(0, .iface 94 (.agg [.int .i64 x].toArray)), (1, .iface 128 (.pointer (some ⟨bt, 0, none⟩)))] ha Tryd.func51 rfl Tryd.ntmps51 rfl rfl ?_
  refine cod_seq ?_
  refine cod_region ?_
  refine lst_assign rfl rfl ?_
  refine lst_nil ?_
  refine ex_then ?_
  refine cod_seq ?_
  refine cod_seq ?_
  refine cod_region ?_
  refine lst_move rfl rfl ?_
  refine lst_bin (v := .bool false) rfl rfl rfl (run_eql_nil_no Tryd.underlying104 _) ?_
  refine lst_nil ?_
  refine ex_then ?_
  refine cod_cond_false rfl ?_
  refine cod_skip ?_
  refine ex_then ?_
  refine cod_seq ?_
  refine cod_seq ?_
  refine cod_region ?_
  refine lst_move rfl rfl ?_
  refine lst_bin (v := .bool false) rfl rfl rfl (run_eql_nil_no Tryd.underlying20 _) ?_
  refine lst_nil ?_
  refine ex_then ?_
  refine cod_cond_false rfl ?_
  refine cod_skip ?_
  refine ex_then ?_
  refine cod_seq ?_
  refine cod_region ?_
  refine lst_move rfl rfl ?_
  refine lst_prim (X := Nat) (vs := [_]) (val := fun b => (Value.agg (([.pointer (some ⟨1, 128, none⟩), .pointer (some ⟨b, 0, none⟩), .int .u64 150] : List Value)).toArray)) (rs := fun b => .blk b (.cells [.pointer (some ⟨bt, 0, none⟩)].toArray 128 (0, 0)) :: .blk bt (.cells [.int .i64 x0].toArray 94 (0, 0)) :: T) rfl rfl rfl (fun a w ha => ⟨w.heap.size, _, As.c117 (As.valueOf113 ⟨bt, 0, none⟩ w), ha.alloc (.cells [.pointer (some ⟨bt, 0, none⟩)].toArray 128)⟩) ?_
  intro b
  (try dsimp only)
  refine lst_alloc rfl F.ti154 ?_
  intro b5
  refine lst_store rfl rfl F.ti154 rfl ?_
  refine lst_nil ?_
  refine ex_then ?_
  refine cod_seq ?_
  refine cod_region ?_
  refine lst_loadN rfl rfl F.agg154 F.ti154 ?_
  refine lst_prim (X := Unit) (vs := [_]) (val := fun _ => iT 128) (rs := fun _ => .blk b5 (.cells [.pointer (some ⟨1, 128, none⟩), .pointer (some ⟨b, 0, none⟩), .int .u64 150].toArray 154 (0, 0)) :: .blk b (.cells [.pointer (some ⟨bt, 0, none⟩)].toArray 128 (0, 0)) :: .blk bt (.cells [.int .i64 x0].toArray 94 (0, 0)) :: T) rfl rfl rfl (fun a w ha => ⟨(), w, As.c118 (As.type113 ⟨b, 0, none⟩ w), ha⟩) ?_
  rintro ⟨⟩
  (try dsimp only)
  refine lst_assign rfl rfl ?_
  refine lst_nil ?_
  refine ex_then ?_
  refine cod_seq ?_
  refine cod_seq ?_
  refine cod_region ?_
  refine lst_move rfl rfl ?_
  refine lst_method (vs := []) rfl rfl rfl (fun w => As.methodKind _ w) (fun w => As.c145 (As.kind113 w)) ?_
  refine lst_int rfl rfl rfl bin_neq ?_
  refine lst_move rfl rfl ?_
  refine lst_on rfl rfl ?_
  refine lst_loadN rfl rfl F.agg154 F.ti154 ?_
  refine lst_on rfl rfl ?_
  refine lst_prim (X := Unit) (vs := [_]) (val := fun _ => .bool false) (rs := fun _ => .blk b5 (.cells [.pointer (some ⟨1, 128, none⟩), .pointer (some ⟨b, 0, none⟩), .int .u64 150].toArray 154 (0, 0)) :: .blk b (.cells [.pointer (some ⟨bt, 0, none⟩)].toArray 128 (0, 0)) :: .blk bt (.cells [.int .i64 x0].toArray 94 (0, 0)) :: T) rfl rfl rfl (fun a w ha => ⟨(), w, As.c119 (As.isNil113 ⟨b, 0, none⟩ ⟨bt, 0, none⟩ w (cell_of_blk (ha.mem_blk (InB.mem (b := b))) rfl)), ha⟩) ?_
  rintro ⟨⟩
  (try dsimp only)
  refine lst_pick_false rfl rfl rfl ?_
  refine lst_nil ?_
  refine ex_then ?_
  refine cod_cond_false rfl ?_
  refine cod_skip ?_
  refine ex_then ?_
  refine cod_seq ?_
  refine cod_region ?_
  refine lst_move rfl rfl ?_
  refine lst_method (vs := []) rfl rfl rfl (fun w => As.methodElem _ w) (fun w => As.c156 (As.elem113 w)) ?_
  refine lst_assign rfl rfl ?_
  refine lst_nil ?_
  refine ex_then ?_
  refine cod_seq ?_
  refine cod_seq ?_
  refine cod_region ?_
  refine lst_move rfl rfl ?_
  refine lst_method (vs := []) rfl rfl rfl (fun w => As.methodKind _ w) (fun w => As.c145 (As.kind111 w)) ?_
  refine lst_int rfl rfl rfl bin_neq ?_
  refine lst_move rfl rfl ?_
  refine lst_on rfl rfl ?_
  refine lst_move rfl rfl ?_
  refine lst_on rfl rfl ?_
  refine lst_load_at (v := iT 104) rfl rfl F.one157 (fun a w ha => ha.old hE (by omega)) ?_
  refine lst_on rfl rfl ?_
  refine lst_method (vs := [_]) rfl rfl rfl (fun w => As.methodImplements _ w) (fun w => As.c157 (As.implements111 w)) ?_
  refine lst_on rfl rfl ?_
  refine lst_not rfl rfl ?_
  refine lst_pick_true rfl rfl rfl ?_
  refine lst_nil ?_
  refine ex_then ?_
  refine cod_cond_false rfl ?_
  refine cod_skip ?_
  refine ex_then ?_
  refine cod_seq ?_
  refine cod_region ?_
  refine lst_move rfl rfl ?_
  refine lst_move rfl rfl ?_
  refine lst_loadN rfl rfl F.agg154 F.ti154 ?_
  refine lst_move rfl rfl ?_
  refine lst_call (X := Unit) (first := []) (cap := []) (vs := [_, _, _, _]) (p := fun _ => True) (val := fun _ => .bool true) (rs := fun _ => .blk b5 (.cells [.pointer (some ⟨1, 128, none⟩), .pointer (some ⟨b, 0, none⟩), .int .u64 150].toArray 154 (0, 0)) :: .blk b (.cells [.pointer (some ⟨bt, 0, none⟩)].toArray 128 (0, 0)) :: .blk bt (.cells [.int .i64 x].toArray 94 (0, 0)) :: T) rfl rfl rfl F.ent66 (fun a w ha => (as_hit (bt := bt) (bp := b) (x := x) (x0 := x0) (T := .blk b5 (.cells [.pointer (some ⟨1, 128, none⟩), .pointer (some ⟨b, 0, none⟩), .int .u64 150].toArray 154 (0, 0)) :: T) rfl (ha.pck (by repeat (first | exact Pck.nil _ | exact Pck.refl _ | (apply Pck.cons; focus ((repeat (first | exact Rem.here _ | apply Rem.there)); done)) | refine Pck.skip _ ?_)))).mono (fun e w' h => ⟨(), trivial, h.1, h.2.pck (by repeat (first | exact Pck.nil _ | exact Pck.refl _ | (apply Pck.cons; focus ((repeat (first | exact Rem.here _ | apply Rem.there)); done)) | refine Pck.skip _ ?_))⟩)) ?_
  rintro ⟨⟩ -
  (try dsimp only)
  refine lst_assign rfl rfl ?_
  refine lst_nil ?_
  refine ex_then ?_
  refine cod_ret ?_
  exact ex_ret rfl (fun a w ha => res_one rfl rfl ha) (fun _ _ ha' => ⟨rfl, ha.back (ha'.pck (by repeat (first | exact Pck.nil _ | exact Pck.refl _ | (apply Pck.cons; focus ((repeat (first | exact Rem.here _ | apply Rem.there)); done)) | refine Pck.skip _ ?_)))⟩)

end Go.Proofs.YthkbagikmbcphaaDoor.N
namespace Go.Proofs.YthkbagikmbcphaaDoor.N
open Go Go.RowKit Go.Proofs
theorem F.ent33 : Enters Tryd.prog 33 := enters_of Tryd.func33 rfl (by kernel_rfl)
theorem F.ent34 : Enters Tryd.prog 34 := enters_of Tryd.func34 rfl (by kernel_rfl)
theorem F.ent35 : Enters Tryd.prog 35 := enters_of Tryd.func35 rfl (by kernel_rfl)
theorem F.ent37 : Enters Tryd.prog 37 := enters_of Tryd.func37 rfl (by kernel_rfl)
theorem F.ent51 : Enters Tryd.prog 51 := enters_of Tryd.func51 rfl (by kernel_rfl)
theorem F.pl33 : Places Tryd.prog 33 [(0, 1), (1, 1)] := .inl ⟨_, Tryd.underlying33, by kernel_rfl⟩
theorem can_t (d : Cd) (s : St) (hs1 : s.lim.length = 6) (hs2 : s.los.length = 6) (hs3 : ∀ n ∈ s.lim, n ≤ anyN) (hs4 : ∀ x ∈ s.los, x.1 ≤ 1000 ∧ x.2 ≤ 1000) (hn1 : 1 ≤ d.vs.length) (hn6 : d.vs.length ≤ 6) (hr6 : d.rs.length ≤ 6) (hv : ∀ (i : Nat) x, d.vs[i]? = some x → -1 ≤ x.fr ∧ x.fr < (i : Int) ∧ x.room ≤ 40 ∧ x.lo ≤ x.hi ∧ x.hi ≤ 20) (hr : ∀ (i : Nat) x, d.rs[i]? = some x → x.v < d.vs.length ∧ x.sc ≤ 2 ∧ x.sh ≤ 60 ∧ x.er ≤ 9) (hok : okN d.vs s = true) (w : World) (hC : Cel w d) : Calls Tryd.prog 33 #[.pointer (some ⟨d.pc, 0, none⟩), .agg (St.cells s).toArray] w fun e w' => e = .returned (.bool true) ∧ Grew w w' [] := by
  refine enter (N := 12) [(0, .pointer (some ⟨d.pc, 0, none⟩)), (1, .agg (St.cells s).toArray)] Tryd.func33 rfl Tryd.ntmps33 rfl rfl ?_
  refine cod_seq ?_
  refine cod_region ?_
  refine lst_box rfl rfl ?_
  intro b3
  refine lst_assign rfl rfl ?_
  refine lst_nil ?_
  refine ex_then ?_
  refine cod_seq ?_
  refine cod_region ?_
  refine lst_alloc rfl F.ti94 ?_
  intro b5
  refine lst_nil ?_
  refine ex_then ?_
  refine cod_seq ?_
  refine cod_region ?_
  refine lst_move rfl rfl ?_
  refine lst_loadN (l := St.cells s) (hv := ext_all (St.len hs1 hs2)) rfl rfl F.agg72 F.ti72 ?_
  refine lst_fn0 (v := .nilIface) (vs := [_, _]) rfl rfl F.ent37 (fun a w ha => (settle_c d s hs1 hs2 hs3 hs4 hn1 hn6 hr6 hv hr w (hC.later ha.below)).mono (fun e w' h => by
      obtain ⟨h1 | h1, h2⟩ := h
      · exact ⟨h1.2, h2⟩
      · rw [hok] at h1; cases h1.1)) ?_
  refine lst_makeInterface rfl rfl Tryd.underlying128 rfl ?_
  refine lst_fn0 (v := .bool false) (vs := [_, _]) rfl rfl F.ent51 (fun a w ha => as_nil _ w) ?_
  refine lst_not rfl rfl ?_
  refine lst_assign rfl rfl ?_
  refine lst_nil ?_
  refine ex_then ?_
  refine cod_ret ?_
  exact ex_ret rfl (fun a w ha => res_one rfl rfl ha) (fun a w ha => ⟨rfl, ha.grown (List.nil_sublist _)⟩)

theorem can_f (d : Cd) (s : St) (hs1 : s.lim.length = 6) (hs2 : s.los.length = 6) (hs3 : ∀ n ∈ s.lim, n ≤ anyN) (hs4 : ∀ x ∈ s.los, x.1 ≤ 1000 ∧ x.2 ≤ 1000) (hn1 : 1 ≤ d.vs.length) (hn6 : d.vs.length ≤ 6) (hr6 : d.rs.length ≤ 6) (hv : ∀ (i : Nat) x, d.vs[i]? = some x → -1 ≤ x.fr ∧ x.fr < (i : Int) ∧ x.room ≤ 40 ∧ x.lo ≤ x.hi ∧ x.hi ≤ 20) (hr : ∀ (i : Nat) x, d.rs[i]? = some x → x.v < d.vs.length ∧ x.sc ≤ 2 ∧ x.sh ≤ 60 ∧ x.er ≤ 9) (hok : okN d.vs s = false) (w : World) (hC : Cel w d) (hE : w.cell? ⟨0, 0, none⟩ = some (iT 104)) : Calls Tryd.prog 33 #[.pointer (some ⟨d.pc, 0, none⟩), .agg (St.cells s).toArray] w fun e w' => e = .returned (.bool false) ∧ Grew w w' [] := by
  have hB0 : 0 < w.heap.size := Nat.lt_of_le_of_lt (Nat.zero_le _) hC.pc
  refine enter (N := 12) [(0, .pointer (some ⟨d.pc, 0, none⟩)), (1, .agg (St.cells s).toArray)] Tryd.func33 rfl Tryd.ntmps33 rfl rfl ?_
  refine cod_seq ?_
  refine cod_region ?_
  refine lst_box rfl rfl ?_
  intro b3
  refine lst_assign rfl rfl ?_
  refine lst_nil ?_
  refine ex_then ?_
  refine cod_seq ?_
  refine cod_region ?_
  refine lst_alloc rfl F.ti94 ?_
  intro b5
  refine lst_nil ?_
  refine ex_then ?_
  refine cod_seq ?_
  refine cod_region ?_
  refine lst_move rfl rfl ?_
  refine lst_loadN (l := St.cells s) (hv := ext_all (St.len hs1 hs2)) rfl rfl F.agg72 F.ti72 ?_
  refine lst_call (X := Nat) (first := []) (cap := []) (vs := [_, _]) (p := fun _ => True) (val := fun i => .iface 94 (.agg [.int .i64 (i : Int)].toArray)) (rs := fun _ => [.blk b5 (.cells [.int .i64 0].toArray 94 (0, 0)), .blk b3 (.cells (St.cells s).toArray 72 (0, 0))]) rfl rfl rfl F.ent37 (fun a w ha => (settle_c d s hs1 hs2 hs3 hs4 hn1 hn6 hr6 hv hr w (hC.later ha.below)).mono (fun e w' h => by
      obtain ⟨h1 | h1, h2⟩ := h
      · rw [hok] at h1; cases h1.1
      · obtain ⟨i, hi⟩ := h1.2; exact ⟨i, trivial, hi, ha.more h2⟩)) ?_
  intro i _
  (try dsimp only)
  refine lst_makeInterface rfl rfl Tryd.underlying128 rfl ?_
  refine lst_call (X := Unit) (first := []) (cap := []) (vs := [_, _]) (p := fun _ => True) (val := fun _ => .bool true) (rs := fun _ => [.blk b5 (.cells [.int .i64 (i : Int)].toArray 94 (0, 0)), .blk b3 (.cells (St.cells s).toArray 72 (0, 0))]) rfl rfl rfl F.ent51 (fun a w ha => (As_hit (bt := b5) (x := (i : Int)) (x0 := 0) (T := [.blk b3 (.cells (St.cells s).toArray 72 (0, 0))]) rfl rfl hB0 hE ha).mono (fun e w' h => ⟨(), trivial, h.1, h.2⟩)) ?_
  rintro ⟨⟩ -
  (try dsimp only)
  refine lst_not rfl rfl ?_
  refine lst_assign rfl rfl ?_
  refine lst_nil ?_
  refine ex_then ?_
  refine cod_ret ?_
  exact ex_ret rfl (fun a w ha => res_one rfl rfl ha) (fun a w ha => ⟨rfl, ha.grown (List.nil_sublist _)⟩)

theorem can_c (d : Cd) (s : St) (hs1 : s.lim.length = 6) (hs2 : s.los.length = 6) (hs3 : ∀ n ∈ s.lim, n ≤ anyN) (hs4 : ∀ x ∈ s.los, x.1 ≤ 1000 ∧ x.2 ≤ 1000) (hn1 : 1 ≤ d.vs.length) (hn6 : d.vs.length ≤ 6) (hr6 : d.rs.length ≤ 6) (hv : ∀ (i : Nat) x, d.vs[i]? = some x → -1 ≤ x.fr ∧ x.fr < (i : Int) ∧ x.room ≤ 40 ∧ x.lo ≤ x.hi ∧ x.hi ≤ 20) (hr : ∀ (i : Nat) x, d.rs[i]? = some x → x.v < d.vs.length ∧ x.sc ≤ 2 ∧ x.sh ≤ 60 ∧ x.er ≤ 9) (w : World) (hC : Cel w d) (hE : w.cell? ⟨0, 0, none⟩ = some (iT 104)) : Calls Tryd.prog 33 #[.pointer (some ⟨d.pc, 0, none⟩), .agg (St.cells s).toArray] w fun e w' => e = .returned (.bool (okN d.vs s)) ∧ Grew w w' [] := by
  rcases hok : okN d.vs s with _ | _
  · exact can_f d s hs1 hs2 hs3 hs4 hn1 hn6 hr6 hv hr hok w hC hE
  · exact can_t d s hs1 hs2 hs3 hs4 hn1 hn6 hr6 hv hr hok w hC
theorem weighed_any {s : St} {v n : Nat} (_hv : v < 6) (_hs1 : s.lim.length = 6) (hs3 : ∀ n ∈ s.lim, n ≤ anyN) : ∀ m ∈ (weighed s v n).lim, m ≤ anyN := by
  intro m hm
  rcases List.mem_or_eq_of_mem_set hm with h | rfl
  · exact hs3 m h
  · exact Nat.le_trans Nat.and_le_right (spanN_le _ _)
theorem nowN_any (vs : List Vs) (rs : List Rd) (hn : vs.length ≤ 6) : ∀ m ∈ (nowN vs rs).lim, m ≤ anyN := by
  intro m hm
  obtain ⟨i, hi, rfl⟩ := List.getElem_of_mem hm
  have hl := nowN_l1 vs rs
  have := readF_any (rs := rs) (nowL_any (vs := vs) (i := i) (by omega) hn) rs.length
  rw [List.getD_eq_getElem?_getD, show (readF rs (nowL vs vs.length) rs.length)[i]? = some (nowN vs rs).lim[i] from List.getElem?_eq_getElem hi] at this
  exact this
theorem nowN_los (vs : List Vs) (rs : List Rd) (hv : ∀ (i : Nat) x, vs[i]? = some x → x.lo ≤ x.hi ∧ x.hi ≤ 20) (hn : vs.length ≤ 6) : ∀ x ∈ (nowN vs rs).los, x.1 ≤ 1000 ∧ x.2 ≤ 1000 := by
  intro x hm
  obtain ⟨i, hi, rfl⟩ := List.getElem_of_mem hm
  have hl := nowN_l2 vs rs
  have := nowO_get vs (i := i) (by omega) vs.length hn
  rw [List.getD_eq_getElem?_getD, show (nowO vs vs.length)[i]? = some (nowN vs rs).los[i] from List.getElem?_eq_getElem hi] at this
  have this : (nowN vs rs).los[i] = _ := this
  rw [this]
  split
  · rename_i h
    have := hv i (vs.getD i default) (by rw [List.getD_eq_getElem?_getD, List.getElem?_eq_getElem h]; rfl)
    exact ⟨by show (vs.getD i default).lo ≤ _; omega, by show (vs.getD i default).hi ≤ _; omega⟩
  · exact ⟨Nat.zero_le _, Nat.zero_le _⟩

theorem must_c (d : Cd) (hn1 : 1 ≤ d.vs.length) (hn6 : d.vs.length ≤ 6) (hr6 : d.rs.length ≤ 6) (hv : ∀ (i : Nat) x, d.vs[i]? = some x → -1 ≤ x.fr ∧ x.fr < (i : Int) ∧ x.room ≤ 40 ∧ x.lo ≤ x.hi ∧ x.hi ≤ 20) (hr : ∀ (i : Nat) x, d.rs[i]? = some x → x.v < d.vs.length ∧ x.sc ≤ 2 ∧ x.sh ≤ 60 ∧ x.er ≤ 9) (hok : okN d.vs (nowN d.vs d.rs) = true) (w : World) (hC : Cel w d) : Calls Tryd.prog 22 #[.pointer (some ⟨d.pc, 0, none⟩)] w fun e w' => e = .returned (.agg (St.cells (nowN d.vs d.rs)).toArray) ∧ Grew w w' [] := by
  refine enter (N := 14) [(0, .pointer (some ⟨d.pc, 0, none⟩))] Tryd.func22 rfl Tryd.ntmps22 rfl rfl ?_
  refine cod_seq ?_
  refine cod_region ?_
  refine lst_alloc rfl F.ti72 ?_
  intro b2
  refine lst_nil ?_
  refine ex_then ?_
  refine cod_seq ?_
  refine cod_region ?_
  refine lst_move rfl rfl ?_
  refine lst_fn0 (v := .agg (St.cells (nowN d.vs d.rs)).toArray) (vs := [_, _]) rfl rfl F.ent35 (fun a w ha => now_c d hn1 hn6 hr6 hv hr w (hC.later ha.below)) ?_
  refine lst_alloc rfl F.ti72 ?_
  intro b3
  refine lst_store (hs := splice_all (m := St.cells (nowN d.vs d.rs)) (by rw [St.len (s := nowN d.vs d.rs) (nowN_l1 _ _) (nowN_l2 _ _)]; rfl)) rfl rfl F.ti72 (St.len (s := nowN d.vs d.rs) (nowN_l1 _ _) (nowN_l2 _ _)) ?_
  refine lst_nil ?_
  refine ex_then ?_
  refine cod_seq ?_
  refine cod_seq ?_
  refine cod_region ?_
  refine lst_move rfl rfl ?_
  refine lst_loadN (l := St.cells (nowN d.vs d.rs)) (hv := ext_all (St.len (s := nowN d.vs d.rs) (nowN_l1 _ _) (nowN_l2 _ _))) rfl rfl F.agg72 F.ti72 ?_
  refine lst_fn0 (v := .nilIface) (vs := [_, _]) rfl rfl F.ent37 (fun a w ha => (settle_c d (nowN d.vs d.rs) (nowN_l1 _ _) (nowN_l2 _ _) (nowN_any _ _ hn6) (nowN_los _ _ (fun i x hx => (hv i x hx).2.2.2) hn6) hn1 hn6 hr6 hv hr w (hC.later ha.below)).mono (fun e w' h => by
      obtain ⟨h1 | h1, h2⟩ := h
      · exact ⟨h1.2, h2⟩
      · rw [hok] at h1; cases h1.1)) ?_
  refine lst_assign rfl rfl ?_
  refine lst_nil ?_
  refine ex_then ?_
  refine cod_seq ?_
  refine cod_region ?_
  refine lst_move rfl rfl ?_
  refine lst_bin (v := .bool false) rfl rfl rfl (run_neq_nilIface Tryd.underlying104 _) ?_
  refine lst_nil ?_
  refine ex_then ?_
  refine cod_cond_false rfl ?_
  refine cod_skip ?_
  refine ex_then ?_
  refine cod_seq ?_
  refine cod_region ?_
  refine lst_loadN (l := St.cells (nowN d.vs d.rs)) (hv := ext_all (St.len (s := nowN d.vs d.rs) (nowN_l1 _ _) (nowN_l2 _ _))) rfl rfl F.agg72 F.ti72 ?_
  refine lst_store (hs := splice_all (m := St.cells (nowN d.vs d.rs)) (by rw [St.len (s := nowN d.vs d.rs) (nowN_l1 _ _) (nowN_l2 _ _)]; rfl)) rfl rfl F.ti72 (St.len (s := nowN d.vs d.rs) (nowN_l1 _ _) (nowN_l2 _ _)) ?_
  refine lst_nil ?_
  refine ex_then ?_
  refine cod_ret ?_
  exact ex_ret rfl (fun a w ha => res_cellN rfl rfl F.agg72 F.ti72 (St.len (s := nowN d.vs d.rs) (nowN_l1 _ _) (nowN_l2 _ _)) ha) (fun a w ha => ⟨rfl, ha.grown (List.nil_sublist _)⟩)

theorem weight_c (d : Cd) (s : St) (v : Nat) (hv6 : v < 6) (hs1 : s.lim.length = 6) (hs2 : s.los.length = 6) (hs3 : ∀ n ∈ s.lim, n ≤ anyN) (hs4 : ∀ x ∈ s.los, x.1 ≤ 1000 ∧ x.2 ≤ 1000) (hn1 : 1 ≤ d.vs.length) (hn6 : d.vs.length ≤ 6) (hr6 : d.rs.length ≤ 6) (hv : ∀ (i : Nat) x, d.vs[i]? = some x → -1 ≤ x.fr ∧ x.fr < (i : Int) ∧ x.room ≤ 40 ∧ x.lo ≤ x.hi ∧ x.hi ≤ 20) (hr : ∀ (i : Nat) x, d.rs[i]? = some x → x.v < d.vs.length ∧ x.sc ≤ 2 ∧ x.sh ≤ 60 ∧ x.er ≤ 9) (w : World) (hC : Cel w d) (hE : w.cell? ⟨0, 0, none⟩ = some (iT 104)) : Calls Tryd.prog 21 #[.pointer (some ⟨d.pc, 0, none⟩), .agg (St.cells s).toArray, .int .i64 (v : Int)] w fun e w' => e = .returned (.agg [.int .i64 (((wgtF d.vs s v 41).1 : Nat) : Int), .int .i64 (((wgtF d.vs s v 41).2 : Nat) : Int)].toArray) ∧ Grew w w' [] := by
  refine enter (N := 27) [(0, .pointer (some ⟨d.pc, 0, none⟩)), (1, .agg (St.cells s).toArray), (2, .int .i64 (v : Int))] Tryd.func21 rfl Tryd.ntmps21 rfl rfl ?_
  refine cod_seq ?_
  refine cod_region ?_
  refine lst_box rfl rfl ?_
  intro b4
  refine lst_alloc rfl F.ti33 ?_
  intro b6
  refine lst_nil ?_
  refine ex_then ?_
  refine cod_seq ?_
  refine cod_region ?_
  refine lst_struct (vs := [(0, _), (1, _)]) (l' := [_, _]) rfl rfl F.ti33 F.pl33 (.cons rfl rfl (.cons rfl rfl (.nil _))) rfl ?_
  refine lst_alloc rfl F.ti33 ?_
  intro b7
  refine lst_store rfl rfl F.ti33 rfl ?_
  refine lst_nil ?_
  refine ex_then ?_
  refine cod_seq ?_
  refine cod_seq ?_
  refine cod_region ?_
  refine lst_move rfl rfl ?_
  refine lst_nil ?_
  refine ex_then ?_
  refine cod_block ?_
  refine cod_loop' (G := Nat) (fun g => g ≤ 41) (fun g => 41 - g) (fun g => [(0, .pointer (some ⟨d.pc, 0, none⟩)), (2, .int .i64 (v : Int)), (4, .pointer (some ⟨b4, 0, none⟩)), (6, .pointer (some ⟨b6, 0, none⟩)), (7, .pointer (some ⟨b7, 0, none⟩)), (10, .int .i64 (g : Int))]) (fun g => [.blk b7 (.cells [.int .i64 (((wgtF d.vs s v g).1 : Nat) : Int), .int .i64 (((wgtF d.vs s v g).2 : Nat) : Int)].toArray 33 (0, 0)), .blk b6 (.cells [.int .i64 0, .int .i64 0].toArray 33 (0, 0)), .blk b4 (.cells (St.cells s).toArray 72 (0, 0))]) (0) (Nat.zero_le _) (by repeat (first | exact Sub.nil _ | refine Sub.cons rfl ?_)) (by repeat (first | exact Pck.nil _ | exact Pck.refl _ | (apply Pck.cons; focus ((repeat (first | exact Rem.here _ | apply Rem.there)); done)) | refine Pck.skip _ ?_)) ?_
  rintro k hk
  (try dsimp only at hk ⊢)
  refine cod_seq ?_
  refine cod_region ?_
  refine lst_int rfl rfl rfl bin_lss ?_
  refine lst_nil ?_
  refine ex_then ?_
  refine cod_seq ?_
  refine cod_cond_dec rfl (fun hc0 => ?_) (fun hc0 => ?_)
  · skip
    have hk' : k < 41 := by omega
    have hws1 : (weighed s v k).lim.length = 6 := by show (s.lim.set _ _).length = 6; rw [List.length_set]; exact hs1
    refine cod_skip ?_
    refine ex_then ?_
    refine cod_seq ?_
    refine cod_block ?_
    refine cod_seq ?_
    refine cod_region ?_
    refine lst_move rfl rfl ?_
    refine lst_assign rfl rfl ?_
    refine lst_nil ?_
    refine ex_then ?_
    refine cod_seq ?_
    refine cod_region ?_
    refine lst_move rfl rfl ?_
    refine lst_loadN (l := St.cells s) (hv := ext_all (St.len hs1 hs2)) rfl rfl F.agg72 F.ti72 ?_
    refine lst_move rfl rfl ?_
    refine lst_move rfl rfl ?_
    refine lst_fn0 (v := .agg (St.cells (weighed s v k)).toArray) (vs := [_, _, _]) rfl rfl F.ent34 (fun a w ha => weighed_c s v k hv6 hs1 hs2 hs3 hs4 w) ?_
    refine lst_fn0 (v := .bool (okN d.vs (weighed s v k))) (vs := [_, _]) rfl rfl F.ent33 (fun a w ha => can_c d (weighed s v k) hws1 hs2 (weighed_any hv6 hs1 hs3) hs4 hn1 hn6 hr6 hv hr w (hC.later ha.below) ((ha.below.cell (cell_lt hE)).trans hE)) ?_
    refine lst_nil ?_
    refine ex_then ?_
    refine cod_cond_bool rfl (fun hc1 => ?_) (fun hc1 => ?_)
    · skip
      refine cod_region ?_
      refine lst_field_z rfl rfl F.fi33_0 F.ti3 ?_
      refine lst_load rfl rfl F.one3 ?_
      refine lst_move rfl rfl ?_
      refine lst_min rfl rfl rfl ?_
      have hmin : (if ((k : Nat) : Int) < (((wgtF d.vs s v k).1 : Nat) : Int) then ((k : Nat) : Int) else (((wgtF d.vs s v k).1 : Nat) : Int)) = ((min (wgtF d.vs s v k).1 k : Nat) : Int) := by split <;> omega
      rw [hmin]
      refine lst_move rfl rfl ?_
      refine lst_struct (vs := [(0, _), (1, _)]) (l' := [_, _]) rfl rfl F.ti33 F.pl33 (.cons rfl rfl (.cons rfl rfl (.nil _))) rfl ?_
      refine lst_store rfl rfl F.ti33 rfl ?_
      refine lst_nil ?_
      refine ex_block_normal ?_
      refine ex_then ?_
      refine cod_region ?_
      refine lst_int rfl rfl rfl (fun w => bin_add w (wrap_i64' _ (by omega) (by omega))) ?_
      refine lst_move rfl rfl ?_
      refine lst_nil ?_
      have e : wgtF d.vs s v (k + 1) = (min (wgtF d.vs s v k).1 k, k) := if_pos hc1
      refine ex_round' (k + 1) (by omega) (by (try dsimp only); omega) (by repeat (first | exact Sub.nil _ | refine Sub.cons rfl ?_)) (by (try dsimp only); rw [e]; repeat (first | exact Pck.nil _ | exact Pck.refl _ | (apply Pck.cons; focus ((repeat (first | exact Rem.here _ | apply Rem.there)); done)) | refine Pck.skip _ ?_))
    · skip
      refine cod_skip ?_
      refine ex_block_normal ?_
      refine ex_then ?_
      refine cod_region ?_
      refine lst_int rfl rfl rfl (fun w => bin_add w (wrap_i64' _ (by omega) (by omega))) ?_
      refine lst_move rfl rfl ?_
      refine lst_nil ?_
      have e : wgtF d.vs s v (k + 1) = wgtF d.vs s v k := if_neg (by rw [hc1]; simp)
      refine ex_round' (k + 1) (by omega) (by (try dsimp only); omega) (by repeat (first | exact Sub.nil _ | refine Sub.cons rfl ?_)) (by (try dsimp only); rw [e]; repeat (first | exact Pck.nil _ | exact Pck.refl _ | (apply Pck.cons; focus ((repeat (first | exact Rem.here _ | apply Rem.there)); done)) | refine Pck.skip _ ?_))
  · skip
    obtain rfl : k = 41 := by omega
    refine cod_exit ?_
    refine ex_then_exit ?_
    refine ex_then_exit ?_
    refine ex_block_exit ?_
    refine ex_then ?_
    refine cod_seq ?_
    refine cod_region ?_
    refine lst_loadN rfl rfl F.agg33 F.ti33 ?_
    refine lst_store rfl rfl F.ti33 rfl ?_
    refine lst_nil ?_
    refine ex_then ?_
    refine cod_ret ?_
    exact ex_ret rfl (fun a w ha => res_cellN rfl rfl F.agg33 F.ti33 rfl ha) (fun a w ha => ⟨rfl, ha.grown (List.nil_sublist _)⟩)

end Go.Proofs.YthkbagikmbcphaaDoor.N
namespace Go.Proofs.YthkbagikmbcphaaDoor.N
open Go Go.RowKit Go.Proofs
/-! What a cellar owns: itself, the row of its tuns, each tun and the row of what fills it. -/
def kidsK (vs : List Vs) (k i : Nat) : List Nat := (List.range k).filter fun j => decide ((vs.getD j default).fr = (i : Int))
theorem kidsK_succ (vs : List Vs) (k i : Nat) : kidsK vs (k + 1) i = if (vs.getD k default).fr = (i : Int) then kidsK vs k i ++ [k] else kidsK vs k i := by
  unfold kidsK
  rw [List.range_succ, List.filter_append]
  by_cases h : (vs.getD k default).fr = (i : Int)
  · rw [if_pos h, List.filter_cons_of_pos (by simpa using h), List.filter_nil]
  · rw [if_neg h, List.filter_cons_of_neg (by simpa using h), List.filter_nil, List.append_nil]
theorem kidsK_len (vs : List Vs) (k i : Nat) : (kidsK vs k i).length ≤ k := by
  unfold kidsK
  exact Nat.le_trans (List.length_filter_le _ _) (by rw [List.length_range]; exact Nat.le_refl _)
theorem kidsK_lt {vs : List Vs} {k i j : Nat} (h : j ∈ kidsK vs k i) : j < k := List.mem_range.1 (List.mem_filter.1 h).1
theorem kidsK_none {vs : List Vs} {k i : Nat} (h : ∀ j, j < k → (vs.getD j default).fr ≠ (i : Int)) : kidsK vs k i = [] := by
  unfold kidsK
  rw [List.filter_eq_nil_iff]
  intro j hj
  have := h j (List.mem_range.1 hj)
  simpa using this
def ptrs (bs l : List Nat) : List Value := (l.map fun j => bs.getD j 0).flatMap bcell
def tunB (vs : List Vs) (bs : List Nat) (fA : Nat → Option Addr) (fc : Nat → Nat) (k i : Nat) : Res :=
  .blk (bs.getD i 0) (.cells [.int .i64 (vs.getD i default).fr, .int .i64 ((vs.getD i default).room : Int), .int .i64 ((vs.getD i default).lo : Int), .int .i64 ((vs.getD i default).hi : Int), .int .i64 (i : Int), .slice (fA i) (kidsK vs k i).length (fc i)].toArray 126 (0, 0))
def tunR (vs : List Vs) (bs : List Nat) (fA : Nat → Option Addr) (fc : Nat → Nat) (k i : Nat) : Res :=
  .row 124 1 (fA i) (kidsK vs k i).length (fc i) (ptrs bs (kidsK vs k i))
def tunF (vs : List Vs) (bs : List Nat) (fA : Nat → Option Addr) (fc : Nat → Nat) (k i : Nat) : List Res := [tunB vs bs fA fc k i, tunR vs bs fA fc k i]
def tunsR (vs : List Vs) (bs : List Nat) (fA : Nat → Option Addr) (fc : Nat → Nat) (k : Nat) : List Res := (List.range k).flatMap (tunF vs bs fA fc k)
def restR (vs : List Vs) (bs : List Nat) (fA : Nat → Option Addr) (fc : Nat → Nat) (k j : Nat) : List Res := ((List.range k).erase j).flatMap (tunF vs bs fA fc k)
def updF {α : Type} (f : Nat → α) (j : Nat) (x : α) (i : Nat) : α := if i = j then x else f i
theorem perm_range {α : Type} (f : Nat → List α) {k j : Nat} (h : j < k) : ((List.range k).flatMap f).Perm (f j ++ ((List.range k).erase j).flatMap f) := by
  have := List.perm_cons_erase (List.mem_range.2 h)
  exact this.flatMap_right f
theorem tuns_out {vs : List Vs} {bs : List Nat} {fA : Nat → Option Addr} {fc : Nat → Nat} {k j : Nat} (h : j < k) :
    (tunsR vs bs fA fc k).Perm (tunB vs bs fA fc k j :: tunR vs bs fA fc k j :: restR vs bs fA fc k j) := perm_range (tunF vs bs fA fc k) h
theorem ptrs_app {bs l : List Nat} {b : Nat} (h : ∀ j ∈ l, j < bs.length) : ptrs (bs ++ [b]) l = ptrs bs l := by
  unfold ptrs
  congr 1
  exact List.map_congr_left fun j hj => by rw [List.getD_eq_getElem?_getD, List.getD_eq_getElem?_getD, List.getElem?_append_left (h j hj)]
theorem tunF_same {vs : List Vs} {bs : List Nat} {fA fA' : Nat → Option Addr} {fc fc' : Nat → Nat} {k i b : Nat} (hb : bs.length = k) (hi : i < k) (hne : (vs.getD k default).fr ≠ (i : Int)) (hA : fA' i = fA i) (hc : fc' i = fc i) :
    tunF vs (bs ++ [b]) fA' fc' (k + 1) i = tunF vs bs fA fc k i := by
  unfold tunF tunB tunR
  rw [kidsK_succ, if_neg hne, hA, hc, ptrs_app (fun j hj => by have := kidsK_lt hj; omega), List.getD_eq_getElem?_getD, List.getElem?_append_left (by omega), ← List.getD_eq_getElem?_getD]
theorem fm_congr {α β : Type} {l : List α} {f g : α → List β} (h : ∀ a ∈ l, f a = g a) : l.flatMap f = l.flatMap g := by
  induction l with
  | nil => rfl
  | cons x l ih => rw [List.flatMap_cons, List.flatMap_cons, h x (List.mem_cons_self ..), ih fun a ha => h a (List.mem_cons_of_mem _ ha)]
/-- The new tun, of which none is filled. -/
theorem tunF_new {vs : List Vs} {bs : List Nat} {fA : Nat → Option Addr} {fc : Nat → Nat} {k b : Nat} (hb : bs.length = k) (hv : ∀ j, j < k + 1 → (vs.getD j default).fr ≠ (k : Int)) (hA : fA k = none) (hc : fc k = 0) :
    tunF vs (bs ++ [b]) fA fc (k + 1) k = [.blk b (.cells [.int .i64 (vs.getD k default).fr, .int .i64 ((vs.getD k default).room : Int), .int .i64 ((vs.getD k default).lo : Int), .int .i64 ((vs.getD k default).hi : Int), .int .i64 (k : Int), .slice none 0 0].toArray 126 (0, 0)), .row 124 1 none 0 0 []] := by
  unfold tunF tunB tunR
  rw [kidsK_none hv, hA, hc, List.getD_eq_getElem?_getD, List.getElem?_append_right (by omega), hb, Nat.sub_self]
  rfl
theorem tuns_root {vs : List Vs} {bs : List Nat} {fA : Nat → Option Addr} {fc : Nat → Nat} {k b : Nat} (hb : bs.length = k) (hv : ∀ j, j < k + 1 → (vs.getD j default).fr ≠ (k : Int)) (hr : (vs.getD k default).fr < 0) (hA : fA k = none) (hc : fc k = 0) :
    tunsR vs (bs ++ [b]) fA fc (k + 1) = tunsR vs bs fA fc k ++ [.blk b (.cells [.int .i64 (vs.getD k default).fr, .int .i64 ((vs.getD k default).room : Int), .int .i64 ((vs.getD k default).lo : Int), .int .i64 ((vs.getD k default).hi : Int), .int .i64 (k : Int), .slice none 0 0].toArray 126 (0, 0)), .row 124 1 none 0 0 []] := by
  unfold tunsR
  rw [List.range_succ, List.flatMap_append, fm_congr fun i hi => tunF_same hb (List.mem_range.1 hi) (by omega) rfl rfl, List.flatMap_cons, List.flatMap_nil, List.append_nil, tunF_new hb hv hA hc]
theorem tuns_in {vs : List Vs} {bs : List Nat} {fA : Nat → Option Addr} {fc : Nat → Nat} {k j b c' : Nat} {A' : Option Addr} (hb : bs.length = k) (hv : ∀ j, j < k + 1 → (vs.getD j default).fr ≠ (k : Int)) (hjk : j < k) (hr : (vs.getD k default).fr = (j : Int)) (hA : fA k = none) (hc : fc k = 0) :
    (tunsR vs (bs ++ [b]) (updF fA j A') (updF fc j c') (k + 1)).Perm (
      .blk (bs.getD j 0) (.cells [.int .i64 (vs.getD j default).fr, .int .i64 ((vs.getD j default).room : Int), .int .i64 ((vs.getD j default).lo : Int), .int .i64 ((vs.getD j default).hi : Int), .int .i64 (j : Int), .slice A' ((kidsK vs k j).length + 1) c'].toArray 126 (0, 0))
      :: .row 124 1 A' ((kidsK vs k j).length + 1) c' (ptrs bs (kidsK vs k j) ++ [.pointer (some ⟨b, 0, none⟩)]) :: restR vs bs fA fc k j
      ++ [.blk b (.cells [.int .i64 (vs.getD k default).fr, .int .i64 ((vs.getD k default).room : Int), .int .i64 ((vs.getD k default).lo : Int), .int .i64 ((vs.getD k default).hi : Int), .int .i64 (k : Int), .slice none 0 0].toArray 126 (0, 0)), .row 124 1 none 0 0 []]) := by
  have h1 : tunF vs (bs ++ [b]) (updF fA j A') (updF fc j c') (k + 1) k = _ := tunF_new (b := b) hb hv (show updF fA j A' k = none by unfold updF; rw [if_neg (by omega), hA]) (show updF fc j c' k = 0 by unfold updF; rw [if_neg (by omega), hc])
  have h2 : ((List.range k).erase j).flatMap (tunF vs (bs ++ [b]) (updF fA j A') (updF fc j c') (k + 1)) = restR vs bs fA fc k j := by
    unfold restR
    refine fm_congr fun i hi => ?_
    obtain ⟨h3, h4⟩ := (List.nodup_range.mem_erase_iff).1 hi
    exact tunF_same hb (List.mem_range.1 h4) (by omega) (by unfold updF; rw [if_neg h3]) (by unfold updF; rw [if_neg h3])
  have h3 : tunF vs (bs ++ [b]) (updF fA j A') (updF fc j c') (k + 1) j = [.blk (bs.getD j 0) (.cells [.int .i64 (vs.getD j default).fr, .int .i64 ((vs.getD j default).room : Int), .int .i64 ((vs.getD j default).lo : Int), .int .i64 ((vs.getD j default).hi : Int), .int .i64 (j : Int), .slice A' ((kidsK vs k j).length + 1) c'].toArray 126 (0, 0)), .row 124 1 A' ((kidsK vs k j).length + 1) c' (ptrs bs (kidsK vs k j) ++ [.pointer (some ⟨b, 0, none⟩)])] := by
    unfold tunF tunB tunR
    rw [kidsK_succ, if_pos hr, List.length_append, List.length_singleton]
    have e1 : updF fA j A' j = A' := if_pos rfl
    have e2 : updF fc j c' j = c' := if_pos rfl
    have e3 : (bs ++ [b]).getD j 0 = bs.getD j 0 := by rw [List.getD_eq_getElem?_getD, List.getElem?_append_left (by omega), ← List.getD_eq_getElem?_getD]
    have e4 : ptrs (bs ++ [b]) (kidsK vs k j ++ [k]) = ptrs bs (kidsK vs k j) ++ [.pointer (some ⟨b, 0, none⟩)] := by
      show ((kidsK vs k j ++ [k]).map _).flatMap bcell = _
      rw [List.map_append, List.flatMap_append]
      have := ptrs_app (b := b) (bs := bs) (l := kidsK vs k j) (fun i hi => by have := kidsK_lt hi; omega)
      unfold ptrs at this ⊢
      rw [this, List.map_cons, List.map_nil, List.getD_eq_getElem?_getD, List.getElem?_append_right (by omega), hb, Nat.sub_self]
      rfl
    rw [e1, e2, e3, e4]
  unfold tunsR
  rw [List.range_succ, List.flatMap_append, List.flatMap_cons, List.flatMap_nil, List.append_nil, h1]
  refine List.Perm.append_right _ ?_
  have h4 := perm_range (tunF vs (bs ++ [b]) (updF fA j A') (updF fc j c') (k + 1)) hjk
  rw [h2, h3] at h4
  exact h4
def cellR (d : Cd) : List Res :=
  .blk d.pc (.cells [.slice d.vA d.vs.length d.vc, .slice d.rA d.rs.length d.rc, .slice d.tA d.vs.length d.tc].toArray 123 (0, 0)) :: .row 124 1 d.tA d.vs.length d.tc (d.tps.flatMap bcell) :: tunsR d.vs d.tps d.fA d.fc d.vs.length
theorem cel_at {C : Ctx} {fr : List (Nat × Value)} {hp : List Res} {a : Act} {w : World} {d : Cd} (ha : At C fr hp a w) (hm : ∀ r ∈ cellR d, r ∈ hp) (hn : d.tps.length = d.vs.length) (hv : RdL Vs.cells 4 w d.vA d.vs) (hr : RdL Rd.cells 4 w d.rA d.rs) : Cel w d := by
  have m1 := hm _ (List.mem_cons_self ..)
  have m2 := hm _ (List.mem_cons_of_mem _ (List.mem_cons_self ..))
  have hb := ha.mem_blk m1
  refine ⟨(Res.lt (ha.own _ m1) _ rfl).2, cell_of_blk hb rfl, cell_of_blk hb rfl, cell_of_blk hb rfl, hn, hv, hr, row_reads ha bcell_len m2 hn.symm, fun i t hi => ?_⟩
  obtain ⟨hi1, hi2⟩ := List.getElem?_eq_some_iff.1 hi
  have ht : d.tps.getD i 0 = t := by rw [List.getD_eq_getElem?_getD, hi]; rfl
  have hmem : ∀ r ∈ tunF d.vs d.tps d.fA d.fc d.vs.length i, r ∈ hp := fun r hr => hm r (List.mem_cons_of_mem _ (List.mem_cons_of_mem _ (List.mem_flatMap.2 ⟨i, List.mem_range.2 (by omega), hr⟩)))
  have m3 := hmem _ (List.mem_cons_self ..)
  have m4 := hmem _ (List.mem_cons_of_mem _ (List.mem_cons_self ..))
  unfold tunB at m3
  unfold tunR at m4
  rw [ht] at m3
  have hb3 := ha.mem_blk m3
  refine ⟨(Res.lt (ha.own _ m3) _ rfl).2, cell_of_blk hb3 rfl, cell_of_blk hb3 rfl, ?_⟩
  exact row_reads ha bcell_len (l := (kids d.vs i).map fun k => d.tps.getD k 0) m4 (by rw [List.length_map]; rfl)
end Go.Proofs.YthkbagikmbcphaaDoor.N
namespace Go.Proofs.YthkbagikmbcphaaDoor.N
open Go Go.RowKit Go.Proofs
theorem pck_pre : ∀ (t m : List Res), Pck t (t ++ m)
  | [], _m => Pck.nil _
  | _x :: t, m => Pck.cons (Rem.here _) (pck_pre t m)
/-- What is wanted may be put in another order. -/
theorem pck_left {t t' l : List Res} (h : t.Perm t') (k : Pck t' l) : Pck t l := by
  obtain ⟨l', h1, h2⟩ := k.sub
  obtain ⟨m, hm⟩ := h2.exists_perm_append
  exact Pck.perm (h1.trans (hm.trans (h.symm.append_right m))) (pck_pre t m)
theorem At.row0 {C : Ctx} {fr : List (Nat × Value)} {hp : List Res} {a : Act} {w : World} {e size : Nat} (ha : At C fr hp a w) : At C fr (.row e size none 0 0 [] :: hp) a w :=
  ⟨ha.size, ha.defs, ha.slots, ha.below, ha.base, fun r hr => by
    rcases List.mem_cons.1 hr with rfl | hr
    · exact ⟨by simp, .inl ⟨rfl, rfl⟩⟩
    · exact ha.own r hr, ha.apart⟩
theorem cod_row0 {C : Ctx} {fr : List (Nat × Value)} {hp : List Res} {Q : Exit → Act → World → Prop} {c : Code} (e size : Nat) (k : Cod C c Q fr (.row e size none 0 0 [] :: hp)) : Cod C c Q fr hp := fun a w ha => k a w ha.row0
theorem ex_row0 {C : Ctx} {fr : List (Nat × Value)} {hp : List Res} {Q : Exit → Act → World → Prop} {c : Exit} (e size : Nat) (k : Ex C Q c fr (.row e size none 0 0 [] :: hp)) : Ex C Q c fr hp := fun a w ha => k a w ha.row0
end Go.Proofs.YthkbagikmbcphaaDoor.N
namespace Go.Proofs.YthkbagikmbcphaaDoor.N
open Go Go.RowKit Go.Proofs
theorem F.agg28 : aggB Tryd.prog 28 = true := by unfold aggB; rw [Tryd.underlying28]
theorem F.pl123 : Places Tryd.prog 123 [(0, 2), (2, 1)] := .inl ⟨_, Tryd.underlying123, by kernel_rfl⟩
theorem F.pl126 : Places Tryd.prog 126 [(0, 4), (4, 1), (5, 1)] := .inl ⟨_, Tryd.underlying126, by kernel_rfl⟩
theorem F.ti123 : TI Tryd.prog 123 (.agg [.slice none 0 0, .slice none 0 0, .slice none 0 0].toArray) 3 72 := TI.of (by kernel_rfl)
theorem F.ti126 : TI Tryd.prog 126 (.agg [.int .i64 0, .int .i64 0, .int .i64 0, .int .i64 0, .int .i64 0, .slice none 0 0].toArray) 6 64 := TI.of (by kernel_rfl)
theorem open_c (vA rA : Option Addr) (vc rc : Nat) (vs : List Vs) (rs : List Rd) (hn6 : vs.length ≤ 6) (hv : ∀ (i : Nat) x, vs[i]? = some x → -1 ≤ x.fr ∧ x.fr < (i : Int)) (w : World) (hA : RdL Vs.cells 4 w vA vs) : Calls Tryd.prog 32 #[.agg [.slice vA vs.length vc, .slice rA rs.length rc].toArray] w fun e w' => ∃ d : Cd, d.vs = vs ∧ d.rs = rs ∧ d.vA = vA ∧ d.rA = rA ∧ d.tps.length = vs.length ∧ e = .returned (.pointer (some ⟨d.pc, 0, none⟩)) ∧ Grew w w' (cellR d) := by
  refine enter (N := 61) [(0, .agg [.slice vA vs.length vc, .slice rA rs.length rc].toArray)] Tryd.func32 rfl Tryd.ntmps32 rfl rfl ?_
  refine cod_seq ?_
  refine cod_region ?_
  refine lst_box rfl rfl ?_
  intro b1
  refine lst_assign rfl rfl ?_
  refine lst_nil ?_
  refine ex_then ?_
  refine cod_seq ?_
  refine cod_region ?_
  refine lst_loadN rfl rfl F.agg28 F.ti28 ?_
  refine lst_struct (vs := [(0, _)]) (l' := [_, _, _]) rfl rfl F.ti123 F.pl123 (.cons rfl rfl (.nil _)) rfl ?_
  refine lst_box rfl rfl ?_
  intro b9
  refine lst_assign rfl rfl ?_
  refine lst_nil ?_
  refine ex_then ?_
  refine cod_seq ?_
  refine cod_seq ?_
  refine cod_region ?_
  refine lst_field_z rfl rfl F.fi28_0 F.ti25 ?_
  refine lst_load rfl rfl F.one25 ?_
  refine lst_len rfl rfl Tryd.underlying25 ?_
  refine lst_move rfl rfl ?_
  refine lst_nil ?_
  refine ex_then ?_
  refine cod_block ?_
  refine cod_row0 124 1 ?_
  refine cod_loop' (G := List Nat × (Nat → Option Addr) × (Nat → Nat) × Option Addr × Nat) (fun g => g.1.length ≤ vs.length ∧ ∀ i, g.1.length ≤ i → g.2.1 i = none ∧ g.2.2.1 i = 0) (fun g => vs.length - g.1.length) (fun g => [(3, .pointer (some ⟨b9, 0, none⟩)), (11, .slice vA vs.length vc), (12, .int .i64 (vs.length : Int)), (13, .int .i64 (g.1.length : Int))]) (fun g => .blk b9 (.cells [.slice vA vs.length vc, .slice rA rs.length rc, .slice g.2.2.2.1 g.1.length g.2.2.2.2].toArray 123 (0, 0)) :: .row 124 1 g.2.2.2.1 g.1.length g.2.2.2.2 (g.1.flatMap bcell) :: tunsR vs g.1 g.2.1 g.2.2.1 g.1.length) (⟨[], fun _ => none, fun _ => 0, none, 0⟩) ⟨Nat.zero_le _, fun _ _ => ⟨rfl, rfl⟩⟩ (by repeat (first | exact Sub.nil _ | refine Sub.cons rfl ?_)) (by repeat (first | exact Pck.nil _ | exact Pck.refl _ | (apply Pck.cons; focus ((repeat (first | exact Rem.here _ | apply Rem.there)); done)) | refine Pck.skip _ ?_)) ?_
  rintro ⟨bs, fA, fc, tA, tc⟩ ⟨hk, hno⟩
  (try dsimp only at hk hno ⊢)
  refine cod_seq ?_
  refine cod_region ?_
  refine lst_int rfl rfl rfl bin_lss ?_
  refine lst_nil ?_
  refine ex_then ?_
  refine cod_seq ?_
  refine cod_cond_dec rfl (fun hc0 => ?_) (fun hc0 => ?_)
  · skip
    have hk' : bs.length < vs.length := by omega
    obtain ⟨bv, ov, rfl, hbv, hcell⟩ := hA (by omega)
    obtain ⟨x, hx⟩ : ∃ x, vs[bs.length]? = some x := ⟨_, List.getElem?_eq_getElem hk'⟩
    have hxd := getD_of hx
    obtain ⟨hx1, hx2⟩ := hv bs.length x hx
    have hnk : ∀ j, j < bs.length + 1 → (vs.getD j default).fr ≠ (bs.length : Int) := fun j hj => by
      have := (hv j (vs.getD j default) (by rw [List.getD_eq_getElem?_getD, List.getElem?_eq_getElem (by omega)]; rfl)).2
      omega
    refine cod_skip ?_
    refine ex_then ?_
    refine cod_seq ?_
    refine cod_block ?_
    refine cod_seq ?_
    refine cod_region ?_
    refine lst_move rfl rfl ?_
    refine lst_index (j := bs.length) rfl rfl rfl Tryd.underlying25 F.ti56 rfl hk' ?_
    refine lst_loadN_at (l := [.int .i64 x.fr, .int .i64 (x.room : Int), .int .i64 (x.lo : Int), .int .i64 (x.hi : Int)]) rfl rfl F.agg56 F.ti56 rfl (fun a w ha j u hu => ha.old (hcell bs.length x hx j u hu) hbv) ?_
    refine lst_alloc rfl F.ti56 ?_
    intro b5
    refine lst_assign rfl rfl ?_
    refine lst_store rfl rfl F.ti56 rfl ?_
    refine lst_nil ?_
    refine ex_then ?_
    refine cod_seq ?_
    refine cod_region ?_
    refine lst_loadN rfl rfl F.agg56 F.ti56 ?_
    refine lst_move rfl rfl ?_
    refine lst_struct (vs := [(0, _), (1, _)]) (l' := [_, _, _, _, _, _]) rfl rfl F.ti126 F.pl126 (.cons rfl rfl (.cons rfl rfl (.nil _))) rfl ?_
    refine lst_box rfl rfl ?_
    intro b21
    refine lst_assign rfl rfl ?_
    refine lst_nil ?_
    refine ex_then ?_
    refine cod_seq ?_
    refine cod_region ?_
    refine lst_move rfl rfl ?_
    refine lst_move rfl rfl ?_
    refine lst_nilCheck rfl rfl ?_
    refine lst_field_z rfl rfl F.fi123_1 F.ti121 ?_
    refine lst_load rfl rfl F.one121 ?_
    refine lst_move rfl rfl ?_
    refine lst_lit (vs := [(0, _)]) rfl rfl Tryd.underlying121 F.ti124 rfl rfl rfl ?_
    intro b28
    refine lst_append rfl rfl rfl Tryd.underlying121 F.ti124 rfl rfl rfl (by skip; unfold maxLen; omega) (by skip; omega) ?_
    intro A2 c2
    have eA : bs.flatMap bcell ++ [.pointer (some ⟨b21, 0, none⟩)] = (bs ++ [b21]).flatMap bcell := by rw [List.flatMap_append]; rfl
    rw [eA]
    refine lst_nilCheck rfl rfl ?_
    refine lst_field_z rfl rfl F.fi123_1 F.ti121 ?_
    refine lst_store rfl rfl F.ti121 rfl ?_
    refine lst_nil ?_
    refine ex_then ?_
    refine cod_seq ?_
    refine cod_region ?_
    refine lst_field_z rfl rfl F.fi56_0 F.ti3 ?_
    refine lst_load rfl rfl F.one3 ?_
    refine lst_int rfl rfl rfl bin_geq ?_
    refine lst_nil ?_
    refine ex_then ?_
    refine cod_cond_dec rfl (fun hc1 => ?_) (fun hc1 => ?_)
    · skip
      obtain ⟨j, hj⟩ : ∃ j : Nat, x.fr = (j : Int) := ⟨x.fr.toNat, by omega⟩
      have hjk : j < bs.length := by omega
      refine cod_know (fun a w ha => row_some (ha.own _ (InR.mem (A := A2))) (by omega)) ?_
      rintro ⟨g, rfl⟩
      refine cod_perm (by repeat (first | exact tuns_out hjk | apply List.Perm.cons)) ?_
      unfold tunB tunR
      obtain ⟨tj, htj⟩ : ∃ t, bs.getD j 0 = t := ⟨_, rfl⟩
      obtain ⟨Aj, hAj⟩ : ∃ t, fA j = t := ⟨_, rfl⟩
      obtain ⟨cj, hcj⟩ : ∃ t, fc j = t := ⟨_, rfl⟩
      rw [htj, hAj, hcj, hj]
      have hkl := kidsK_len vs bs.length j
      refine any_begin [.b tj, .r Aj] F.follows 25 rfl [false, false, false, false, false, false, false, false, false, false, false, false, false, false, false, false, false, false, false, false, false, false, false, false, false] rfl ?_
      refine any_take (listed' := [true, false, false, false, false, false, false, false, false, false, false, false, false, false, false, false, false, false, false, false, false, false, false, false, false].toArray) 0 rfl rfl rfl (by kernel_rfl) (by kernel_rfl) (by kernel_rfl) (by repeat (first | exact List.Sublist.refl _ | exact List.nil_sublist _ | refine List.Sublist.cons_cons _ ?_ | refine List.Sublist.cons _ ?_)) (yld_move rfl) rfl ?_
      refine any_take (listed' := [true, true, false, false, false, false, false, false, false, false, false, false, false, false, false, false, false, false, false, false, false, false, false, false, false].toArray) 1 rfl rfl rfl (by kernel_rfl) (by kernel_rfl) (by kernel_rfl) (by repeat (first | exact List.Sublist.refl _ | exact List.nil_sublist _ | refine List.Sublist.cons_cons _ ?_ | refine List.Sublist.cons _ ?_)) (yld_nilCheck rfl) rfl ?_
      refine any_take (listed' := [true, true, true, false, false, false, false, false, false, false, false, false, false, false, false, false, false, false, false, false, false, false, false, false, false].toArray) 2 rfl rfl rfl (by kernel_rfl) (by kernel_rfl) (by kernel_rfl) (by repeat (first | exact List.Sublist.refl _ | exact List.nil_sublist _ | refine List.Sublist.cons_cons _ ?_ | refine List.Sublist.cons _ ?_)) (yld_field_z rfl F.fi123_1 F.ti121) rfl ?_
      refine any_take (listed' := [true, true, true, true, false, false, false, false, false, false, false, false, false, false, false, false, false, false, false, false, false, false, false, false, false].toArray) 3 rfl rfl rfl (by kernel_rfl) (by kernel_rfl) (by kernel_rfl) (by repeat (first | exact List.Sublist.refl _ | exact List.nil_sublist _ | refine List.Sublist.cons_cons _ ?_ | refine List.Sublist.cons _ ?_)) (yld_load rfl F.one121) rfl ?_
      refine any_take (listed' := [true, true, true, true, true, false, false, false, false, false, false, false, false, false, false, false, false, false, false, false, false, false, false, false, false].toArray) 4 rfl rfl rfl (by kernel_rfl) (by kernel_rfl) (by kernel_rfl) (by repeat (first | exact List.Sublist.refl _ | exact List.nil_sublist _ | refine List.Sublist.cons_cons _ ?_ | refine List.Sublist.cons _ ?_)) (yld_field_z rfl F.fi56_0 F.ti3) rfl ?_
      refine any_take (listed' := [true, true, true, true, true, true, false, false, false, false, false, false, false, false, false, false, false, false, false, false, false, false, false, false, false].toArray) 5 rfl rfl rfl (by kernel_rfl) (by kernel_rfl) (by kernel_rfl) (by repeat (first | exact List.Sublist.refl _ | exact List.nil_sublist _ | refine List.Sublist.cons_cons _ ?_ | refine List.Sublist.cons _ ?_)) (yld_load rfl F.one3) rfl ?_
      refine any_take (listed' := [true, true, true, true, true, true, true, false, false, false, false, false, false, false, false, false, false, false, false, false, false, false, false, false, false].toArray) 6 rfl rfl rfl (by kernel_rfl) (by kernel_rfl) (by kernel_rfl) (by repeat (first | exact List.Sublist.refl _ | exact List.nil_sublist _ | refine List.Sublist.cons_cons _ ?_ | refine List.Sublist.cons _ ?_)) (yld_index (j := j) rfl rfl Tryd.underlying121 F.ti124 rfl (by omega)) rfl ?_
      refine any_take (listed' := [true, true, true, true, true, true, true, true, false, false, false, false, false, false, false, false, false, false, false, false, false, false, false, false, false].toArray) 7 rfl rfl rfl (by kernel_rfl) (by kernel_rfl) (by kernel_rfl) (by repeat (first | exact List.Sublist.refl _ | exact List.nil_sublist _ | refine List.Sublist.cons_cons _ ?_ | refine List.Sublist.cons _ ?_)) (yld_load_at (v := .pointer (some ⟨tj, 0, none⟩)) rfl F.one124 (fun a w ha => row_at ha (InR.mem (A := some ⟨g, 0, none⟩)) bcell_len (j := 0) (l := bs ++ [b21]) (x := tj) (by rw [List.getElem?_append_left hjk, ← htj]; exact getD_some' hjk) rfl)) rfl ?_
      refine any_take (listed' := [true, true, true, true, true, true, true, true, true, false, false, false, false, false, false, false, false, false, false, false, false, false, false, false, false].toArray) 8 rfl rfl rfl (by kernel_rfl) (by kernel_rfl) (by kernel_rfl) (by repeat (first | exact List.Sublist.refl _ | exact List.nil_sublist _ | refine List.Sublist.cons_cons _ ?_ | refine List.Sublist.cons _ ?_)) (yld_move rfl) rfl ?_
      refine any_take (listed' := [true, true, true, true, true, true, true, true, true, true, false, false, false, false, false, false, false, false, false, false, false, false, false, false, false].toArray) 9 rfl rfl rfl (by kernel_rfl) (by kernel_rfl) (by kernel_rfl) (by repeat (first | exact List.Sublist.refl _ | exact List.nil_sublist _ | refine List.Sublist.cons_cons _ ?_ | refine List.Sublist.cons _ ?_)) (yld_nilCheck rfl) rfl ?_
      refine any_take (listed' := [true, true, true, true, true, true, true, true, true, true, true, false, false, false, false, false, false, false, false, false, false, false, false, false, false].toArray) 10 rfl rfl rfl (by kernel_rfl) (by kernel_rfl) (by kernel_rfl) (by repeat (first | exact List.Sublist.refl _ | exact List.nil_sublist _ | refine List.Sublist.cons_cons _ ?_ | refine List.Sublist.cons _ ?_)) (yld_field_z rfl F.fi123_1 F.ti121) rfl ?_
      refine any_take (listed' := [true, true, true, true, true, true, true, true, true, true, true, true, false, false, false, false, false, false, false, false, false, false, false, false, false].toArray) 11 rfl rfl rfl (by kernel_rfl) (by kernel_rfl) (by kernel_rfl) (by repeat (first | exact List.Sublist.refl _ | exact List.nil_sublist _ | refine List.Sublist.cons_cons _ ?_ | refine List.Sublist.cons _ ?_)) (yld_load rfl F.one121) rfl ?_
      refine any_take (listed' := [true, true, true, true, true, true, true, true, true, true, true, true, true, false, false, false, false, false, false, false, false, false, false, false, false].toArray) 12 rfl rfl rfl (by kernel_rfl) (by kernel_rfl) (by kernel_rfl) (by repeat (first | exact List.Sublist.refl _ | exact List.nil_sublist _ | refine List.Sublist.cons_cons _ ?_ | refine List.Sublist.cons _ ?_)) (yld_field_z rfl F.fi56_0 F.ti3) rfl ?_
      refine any_take (listed' := [true, true, true, true, true, true, true, true, true, true, true, true, true, true, false, false, false, false, false, false, false, false, false, false, false].toArray) 13 rfl rfl rfl (by kernel_rfl) (by kernel_rfl) (by kernel_rfl) (by repeat (first | exact List.Sublist.refl _ | exact List.nil_sublist _ | refine List.Sublist.cons_cons _ ?_ | refine List.Sublist.cons _ ?_)) (yld_load rfl F.one3) rfl ?_
      refine any_take (listed' := [true, true, true, true, true, true, true, true, true, true, true, true, true, true, true, false, false, false, false, false, false, false, false, false, false].toArray) 14 rfl rfl rfl (by kernel_rfl) (by kernel_rfl) (by kernel_rfl) (by repeat (first | exact List.Sublist.refl _ | exact List.nil_sublist _ | refine List.Sublist.cons_cons _ ?_ | refine List.Sublist.cons _ ?_)) (yld_index (j := j) rfl rfl Tryd.underlying121 F.ti124 rfl (by omega)) rfl ?_
      refine any_take (listed' := [true, true, true, true, true, true, true, true, true, true, true, true, true, true, true, true, false, false, false, false, false, false, false, false, false].toArray) 15 rfl rfl rfl (by kernel_rfl) (by kernel_rfl) (by kernel_rfl) (by repeat (first | exact List.Sublist.refl _ | exact List.nil_sublist _ | refine List.Sublist.cons_cons _ ?_ | refine List.Sublist.cons _ ?_)) (yld_load_at (v := .pointer (some ⟨tj, 0, none⟩)) rfl F.one124 (fun a w ha => row_at ha (InR.mem (A := some ⟨g, 0, none⟩)) bcell_len (j := 0) (l := bs ++ [b21]) (x := tj) (by rw [List.getElem?_append_left hjk, ← htj]; exact getD_some' hjk) rfl)) rfl ?_
      refine any_take (listed' := [true, true, true, true, true, true, true, true, true, true, true, true, true, true, true, true, true, false, false, false, false, false, false, false, false].toArray) 16 rfl rfl rfl (by kernel_rfl) (by kernel_rfl) (by kernel_rfl) (by repeat (first | exact List.Sublist.refl _ | exact List.nil_sublist _ | refine List.Sublist.cons_cons _ ?_ | refine List.Sublist.cons _ ?_)) (yld_nilCheck rfl) rfl ?_
      refine any_take (listed' := [true, true, true, true, true, true, true, true, true, true, true, true, true, true, true, true, true, true, false, false, false, false, false, false, false].toArray) 17 rfl rfl rfl (by kernel_rfl) (by kernel_rfl) (by kernel_rfl) (by repeat (first | exact List.Sublist.refl _ | exact List.nil_sublist _ | refine List.Sublist.cons_cons _ ?_ | refine List.Sublist.cons _ ?_)) (yld_field rfl F.fi126_2 F.ti121) rfl ?_
      refine any_take (listed' := [true, true, true, true, true, true, true, true, true, true, true, true, true, true, true, true, true, true, false, true, false, false, false, false, false].toArray) 19 rfl rfl rfl (by kernel_rfl) (by kernel_rfl) (by kernel_rfl) (by repeat (first | exact List.Sublist.refl _ | exact List.nil_sublist _ | refine List.Sublist.cons_cons _ ?_ | refine List.Sublist.cons _ ?_)) (yld_move rfl) rfl ?_
      refine any_two (l1 := [true, true, true, true, true, true, true, true, true, true, true, true, true, true, true, true, true, true, true, true, false, false, false, false, false].toArray) (l2 := [true, true, true, true, true, true, true, true, true, true, true, true, true, true, true, true, true, true, false, true, true, false, false, false, false].toArray) 18 20 (by kernel_rfl) rfl rfl rfl rfl ?_ ?_
      · skip
        refine lst_load rfl rfl F.one121 ?_
        refine lst_nil ?_
        refine any_next (by repeat (first | exact List.Sublist.refl _ | exact List.nil_sublist _ | refine List.Sublist.cons_cons _ ?_ | refine List.Sublist.cons _ ?_)) ?_
        refine any_one (listed' := [true, true, true, true, true, true, true, true, true, true, true, true, true, true, true, true, true, true, true, true, true, false, false, false, false].toArray) 20 (by kernel_rfl) rfl rfl ?_
        refine lst_lit (vs := [(0, _)]) rfl rfl Tryd.underlying121 F.ti124 rfl rfl rfl ?_
        intro b55
        refine lst_nil ?_
        refine any_next (by repeat (first | exact List.Sublist.refl _ | exact List.nil_sublist _ | refine List.Sublist.cons_cons _ ?_ | refine List.Sublist.cons _ ?_)) ?_
        refine any_one (listed' := [true, true, true, true, true, true, true, true, true, true, true, true, true, true, true, true, true, true, true, true, true, true, false, false, false].toArray) 21 (by kernel_rfl) rfl rfl ?_
        refine lst_append rfl rfl rfl Tryd.underlying121 F.ti124 rfl rfl rfl (by skip; unfold maxLen; omega) (by skip; omega) ?_
        intro A3 c3
        refine lst_nil ?_
        refine any_next (by repeat (first | exact List.Sublist.refl _ | exact List.nil_sublist _ | refine List.Sublist.cons_cons _ ?_ | refine List.Sublist.cons _ ?_)) ?_
        refine any_take (listed' := [true, true, true, true, true, true, true, true, true, true, true, true, true, true, true, true, true, true, true, true, true, true, true, false, false].toArray) 22 rfl rfl rfl (by kernel_rfl) (by kernel_rfl) (by kernel_rfl) (by repeat (first | exact List.Sublist.refl _ | exact List.nil_sublist _ | refine List.Sublist.cons_cons _ ?_ | refine List.Sublist.cons _ ?_)) (yld_nilCheck rfl) rfl ?_
        refine any_take (listed' := [true, true, true, true, true, true, true, true, true, true, true, true, true, true, true, true, true, true, true, true, true, true, true, true, false].toArray) 23 rfl rfl rfl (by kernel_rfl) (by kernel_rfl) (by kernel_rfl) (by repeat (first | exact List.Sublist.refl _ | exact List.nil_sublist _ | refine List.Sublist.cons_cons _ ?_ | refine List.Sublist.cons _ ?_)) (yld_field rfl F.fi126_2 F.ti121) rfl ?_
        refine any_one (listed' := [true, true, true, true, true, true, true, true, true, true, true, true, true, true, true, true, true, true, true, true, true, true, true, true, true].toArray) 24 (by kernel_rfl) rfl rfl ?_
        refine lst_store rfl rfl F.ti121 rfl ?_
        refine lst_nil ?_
        refine any_next (by repeat (first | exact List.Sublist.refl _ | exact List.nil_sublist _ | refine List.Sublist.cons_cons _ ?_ | refine List.Sublist.cons _ ?_)) ?_
        refine any_done rfl (by kernel_rfl) ?_
        refine ex_block_normal ?_
        refine ex_then ?_
        refine cod_region ?_
        refine lst_int rfl rfl rfl (fun w => bin_add w (wrap_i64' _ (by omega) (by omega))) ?_
        refine lst_move rfl rfl ?_
        refine lst_nil ?_
        refine ex_row0 124 1 ?_
        have hin := tuns_in (b := b21) (c' := c3) (A' := A3) (fA := fA) (fc := fc) rfl hnk hjk (by rw [hxd]; exact hj) (hno _ (Nat.le_refl _)).1 (hno _ (Nat.le_refl _)).2
        rw [htj, hxd, hj] at hin
        refine ex_round' ⟨bs ++ [b21], updF fA j A3, updF fc j c3, some ⟨g, 0, none⟩, c2⟩ ⟨by simp; omega, fun i hi => by
          have hi' : bs.length + 1 ≤ i := by simpa using hi
          exact ⟨(if_neg (by omega)).trans (hno i (by omega)).1, (if_neg (by omega)).trans (hno i (by omega)).2⟩⟩ (by simp; omega) (by (try simp only [List.length_append, List.length_singleton]); repeat (first | exact Sub.nil _ | refine Sub.cons rfl ?_)) ?_
        simp only [List.length_append, List.length_singleton]
        refine pck_left (((hin.trans List.perm_append_comm).cons _).cons _) ?_
        exact (by repeat (first | exact Pck.nil _ | exact Pck.refl _ | (apply Pck.cons; focus ((repeat (first | exact Rem.here _ | apply Rem.there)); done)) | refine Pck.skip _ ?_))
      · skip
        refine lst_lit (vs := [(0, _)]) rfl rfl Tryd.underlying121 F.ti124 rfl rfl rfl ?_
        intro b55
        refine lst_nil ?_
        refine any_next (by repeat (first | exact List.Sublist.refl _ | exact List.nil_sublist _ | refine List.Sublist.cons_cons _ ?_ | refine List.Sublist.cons _ ?_)) ?_
        refine any_one (listed' := [true, true, true, true, true, true, true, true, true, true, true, true, true, true, true, true, true, true, true, true, true, false, false, false, false].toArray) 18 (by kernel_rfl) rfl rfl ?_
        refine lst_load rfl rfl F.one121 ?_
        refine lst_nil ?_
        refine any_next (by repeat (first | exact List.Sublist.refl _ | exact List.nil_sublist _ | refine List.Sublist.cons_cons _ ?_ | refine List.Sublist.cons _ ?_)) ?_
        refine any_one (listed' := [true, true, true, true, true, true, true, true, true, true, true, true, true, true, true, true, true, true, true, true, true, true, false, false, false].toArray) 21 (by kernel_rfl) rfl rfl ?_
        refine lst_append rfl rfl rfl Tryd.underlying121 F.ti124 rfl rfl rfl (by skip; unfold maxLen; omega) (by skip; omega) ?_
        intro A3 c3
        refine lst_nil ?_
        refine any_next (by repeat (first | exact List.Sublist.refl _ | exact List.nil_sublist _ | refine List.Sublist.cons_cons _ ?_ | refine List.Sublist.cons _ ?_)) ?_
        refine any_take (listed' := [true, true, true, true, true, true, true, true, true, true, true, true, true, true, true, true, true, true, true, true, true, true, true, false, false].toArray) 22 rfl rfl rfl (by kernel_rfl) (by kernel_rfl) (by kernel_rfl) (by repeat (first | exact List.Sublist.refl _ | exact List.nil_sublist _ | refine List.Sublist.cons_cons _ ?_ | refine List.Sublist.cons _ ?_)) (yld_nilCheck rfl) rfl ?_
        refine any_take (listed' := [true, true, true, true, true, true, true, true, true, true, true, true, true, true, true, true, true, true, true, true, true, true, true, true, false].toArray) 23 rfl rfl rfl (by kernel_rfl) (by kernel_rfl) (by kernel_rfl) (by repeat (first | exact List.Sublist.refl _ | exact List.nil_sublist _ | refine List.Sublist.cons_cons _ ?_ | refine List.Sublist.cons _ ?_)) (yld_field rfl F.fi126_2 F.ti121) rfl ?_
        refine any_one (listed' := [true, true, true, true, true, true, true, true, true, true, true, true, true, true, true, true, true, true, true, true, true, true, true, true, true].toArray) 24 (by kernel_rfl) rfl rfl ?_
        refine lst_store rfl rfl F.ti121 rfl ?_
        refine lst_nil ?_
        refine any_next (by repeat (first | exact List.Sublist.refl _ | exact List.nil_sublist _ | refine List.Sublist.cons_cons _ ?_ | refine List.Sublist.cons _ ?_)) ?_
        refine any_done rfl (by kernel_rfl) ?_
        refine ex_block_normal ?_
        refine ex_then ?_
        refine cod_region ?_
        refine lst_int rfl rfl rfl (fun w => bin_add w (wrap_i64' _ (by omega) (by omega))) ?_
        refine lst_move rfl rfl ?_
        refine lst_nil ?_
        refine ex_row0 124 1 ?_
        have hin := tuns_in (b := b21) (c' := c3) (A' := A3) (fA := fA) (fc := fc) rfl hnk hjk (by rw [hxd]; exact hj) (hno _ (Nat.le_refl _)).1 (hno _ (Nat.le_refl _)).2
        rw [htj, hxd, hj] at hin
        refine ex_round' ⟨bs ++ [b21], updF fA j A3, updF fc j c3, some ⟨g, 0, none⟩, c2⟩ ⟨by simp; omega, fun i hi => by
          have hi' : bs.length + 1 ≤ i := by simpa using hi
          exact ⟨(if_neg (by omega)).trans (hno i (by omega)).1, (if_neg (by omega)).trans (hno i (by omega)).2⟩⟩ (by simp; omega) (by (try simp only [List.length_append, List.length_singleton]); repeat (first | exact Sub.nil _ | refine Sub.cons rfl ?_)) ?_
        simp only [List.length_append, List.length_singleton]
        refine pck_left (((hin.trans List.perm_append_comm).cons _).cons _) ?_
        exact (by repeat (first | exact Pck.nil _ | exact Pck.refl _ | (apply Pck.cons; focus ((repeat (first | exact Rem.here _ | apply Rem.there)); done)) | refine Pck.skip _ ?_))
    · skip
      refine cod_skip ?_
      refine ex_block_normal ?_
      refine ex_then ?_
      refine cod_region ?_
      refine lst_int rfl rfl rfl (fun w => bin_add w (wrap_i64' _ (by omega) (by omega))) ?_
      refine lst_move rfl rfl ?_
      refine lst_nil ?_
      refine ex_row0 124 1 ?_
      have hin := tuns_root (b := b21) (fA := fA) (fc := fc) rfl hnk (by rw [hxd]; omega) (hno _ (Nat.le_refl _)).1 (hno _ (Nat.le_refl _)).2
      rw [hxd] at hin
      refine ex_round' ⟨bs ++ [b21], fA, fc, A2, c2⟩ ⟨by simp; omega, fun i hi => by
        have hi' : bs.length + 1 ≤ i := by simpa using hi
        exact hno i (by omega)⟩ (by simp; omega) (by (try simp only [List.length_append, List.length_singleton]); repeat (first | exact Sub.nil _ | refine Sub.cons rfl ?_)) ?_
      simp only [List.length_append, List.length_singleton]
      refine pck_left (((hin ▸ List.perm_append_comm).cons _).cons _) ?_
      exact (by repeat (first | exact Pck.nil _ | exact Pck.refl _ | (apply Pck.cons; focus ((repeat (first | exact Rem.here _ | apply Rem.there)); done)) | refine Pck.skip _ ?_))
  · skip
    obtain hke : bs.length = vs.length := by omega
    refine cod_exit ?_
    refine ex_then_exit ?_
    refine ex_then_exit ?_
    refine ex_block_exit ?_
    refine ex_then ?_
    refine cod_seq ?_
    refine cod_region ?_
    refine lst_move rfl rfl ?_
    refine lst_assign rfl rfl ?_
    refine lst_nil ?_
    refine ex_then ?_
    refine cod_ret ?_
    refine ex_ret rfl (fun a w ha => res_one rfl rfl ha) (fun a w ha => ⟨⟨b9, vs, rs, vA, rA, tA, vc, rc, tc, bs, fA, fc⟩, rfl, rfl, rfl, rfl, hke, rfl, ha.grown ?_⟩)
    unfold cellR
    dsimp only
    rw [hke]
    exact List.Sublist.refl _

end Go.Proofs.YthkbagikmbcphaaDoor.N
namespace Go.Proofs.YthkbagikmbcphaaDoor.N
open Go Go.RowKit Go.Proofs
theorem caught_ret (p : Option Addr) (w : World) : CallsD Tryd.prog 19 #[.pointer p] .returning w fun e u w' => e = .returned (.tuple #[]) ∧ u = .returning ∧ Below w.heap.size w w' := by
  refine callsD_of_wpS Tryd.func19 rfl fun c₀ cs hu => ?_
  apply wpS_seq
  apply wpS_region
  simp [wpOpsS, go_sem, recoverD, hu, Tryd.ntmps19, Exit.thenS, Instr.typeAssert]
  apply wpS_seq
  apply wpS_region
  simp [wpOpsS, go_sem, Exit.thenS]
  refine wpS_cond (t := false) (by simp [Act.eval, Array.replicate]) ?_
  refine wpS_of_wp (wp_skip ?_)
  simp only [bodyPostS]
  exact ⟨trivial, .returning, by rw [← hu], .tuple #[], by simp [results, Tryd.f19], rfl, rfl, (Below.refl _ _).alloc (Nat.le_refl _) _⟩
/-- The deferred call of 'caught'. -/
def caughtD (b : Nat) : Deferred := { target := .fn (.func 19) #[], args := #[.pointer (some ⟨b, 0, none⟩)] }
theorem caught_enters (b : Nat) (w : World) : (invoke (.fn (.func 19) #[]) #[.pointer (some ⟨b, 0, none⟩)]).run Tryd.prog w = .ok (.enter 19 #[.pointer (some ⟨b, 0, none⟩)]) w := by
  have h : Enters Tryd.prog 19 := enters_of Tryd.func19 rfl (by kernel_rfl)
  exact h _ w
theorem ex_ret_caught {B N : Nat} {w0 : World} {fr : List (Nat × Value)} {hp : List Res} {fn : Func} {R : Ending → World → Prop} {b : Nat} (k : ∀ a w, At ⟨Tryd.prog, B, w0, N, [caughtD b]⟩ fr hp a w → ∃ v, (results fn a.tmps).run Tryd.prog w = .ok v w ∧ R (.returned v) w) :
    Ex ⟨Tryd.prog, B, w0, N, [caughtD b]⟩ (bodyPostD Tryd.prog fn R) .ret fr hp := by
  intro a w ha
  show Leaves Tryd.prog fn a.tmps R a.defers .returning w
  rw [ha.defs]
  refine leaves_cons (by simp) (caught_enters b w) ((caught_ret _ w).mono ?_)
  rintro e u w' ⟨rfl, rfl, hb⟩
  obtain ⟨v, h1, h2⟩ := k a w' (ha.later hb)
  exact ⟨v, h1, h2⟩
/-- Two results in memory: the first of more cells, the second of one. -/
theorem res_cellN_cell {C : Ctx} {fr : List (Nat × Value)} {hp : List Res} {a : Act} {w : World} {fn : Func} {u u' n m : Nat} {ty ct ty' ct' : TypeId} {z x : Value} {l : List Value} {b b' : Nat} (h : fn.results = #[.cell u ty, .cell u' ty']) (hu : look fr u = some (.pointer (some ⟨b, 0, none⟩))) (hu' : look fr u' = some (.pointer (some ⟨b', 0, none⟩))) (ht : aggB C.P ty = true) (hi : TI C.P ty z n m) (ht' : One C.P ty')
    [hm : InB b (.cells l.toArray ct (0, 0)) hp] [hm' : InB b' (.cells [x].toArray ct' (0, 0)) hp] (hl : l.length = n) (ha : At C fr hp a w) : (results fn a.tmps).run C.P w = .ok (.tuple #[.agg l.toArray, x]) w := by
  have h2 := ha.slots u _ hu
  have h2' := ha.slots u' _ hu'
  have hl' := run_loadVar_blk ha ht hi hl (ct := ct) (b := b)
  have hc : w.cell? ⟨b', 0, none⟩ = some x := cell_of_blk (ha.mem_blk hm'.mem) rfl
  have hl'' : (loadVar ty' ⟨b', 0, none⟩).run C.P w = .ok x w := by simp [loadVar, run_isAgg ht'.1 ht'.2, hc]
  simp only [results, h, Array.getD_eq_getD_getElem?] at h2 h2' ⊢
  simp [h2, h2', run_asAddr, hl', hl'']
end Go.Proofs.YthkbagikmbcphaaDoor.N
namespace Go.Proofs.YthkbagikmbcphaaDoor.N
open Go Go.RowKit Go.Proofs
theorem F.ent30 : Enters Tryd.prog 30 := enters_of Tryd.func30 rfl (by kernel_rfl)
theorem F.ent32 : Enters Tryd.prog 32 := enters_of Tryd.func32 rfl (by kernel_rfl)
theorem begin_c (vA rA lA : Option Addr) (vc rc lc v : Nat) (vs : List Vs) (rs : List Rd) (hn1 : 1 ≤ vs.length) (hn6 : vs.length ≤ 6) (hr6 : rs.length ≤ 6) (hv : ∀ (i : Nat) x, vs[i]? = some x → -1 ≤ x.fr ∧ x.fr < (i : Int) ∧ x.room ≤ 40 ∧ x.lo ≤ x.hi ∧ x.hi ≤ 20) (hr : ∀ (i : Nat) x, rs[i]? = some x → x.v < vs.length ∧ x.sc ≤ 2 ∧ x.sh ≤ 60 ∧ x.er ≤ 9) (hvn : v < vs.length) (w : World) (hA : RdL Vs.cells 4 w vA vs) (hB : RdL Rd.cells 4 w rA rs) (hL : RdL icell 1 w lA [(v : Int)]) : Calls Tryd.prog 20 #[.agg [.slice vA vs.length vc, .slice rA rs.length rc].toArray, .slice lA 1 lc] w fun e w' => ∃ d : Cd, d.vs = vs ∧ d.rs = rs ∧ d.vA = vA ∧ d.rA = rA ∧ d.tps.length = vs.length ∧ e = .returned (.tuple #[.pointer (some ⟨d.pc, 0, none⟩), .int .i64 0]) ∧ Grew w w' (cellR d) := by
  refine enter (N := 29) [(0, .agg [.slice vA vs.length vc, .slice rA rs.length rc].toArray), (1, .slice lA 1 lc)] Tryd.func20 rfl Tryd.ntmps20 rfl rfl ?_
  refine cod_seq ?_
  refine cod_region ?_
  refine lst_box rfl rfl ?_
  intro b2
  refine lst_assign rfl rfl ?_
  refine lst_assign rfl rfl ?_
  refine lst_nil ?_
  refine ex_then ?_
  refine cod_seq ?_
  refine cod_seq ?_
  refine cod_region ?_
  refine lst_loadN rfl rfl F.agg28 F.ti28 ?_
  refine lst_fn0 (v := .int .i64 0) (vs := [_]) rfl rfl F.ent30 (fun a w ha => Check_c vA rA vc rc vs rs hn1 hn6 hr6 hv hr w (hA.later ha.below) (hB.later ha.below)) ?_
  refine lst_assign rfl rfl ?_
  refine lst_nil ?_
  refine ex_then ?_
  refine cod_seq ?_
  refine cod_region ?_
  refine lst_move rfl rfl ?_
  refine lst_int rfl rfl rfl bin_neq ?_
  refine lst_nil ?_
  refine ex_then ?_
  refine cod_cond_dec rfl (fun hc0 => ?_) (fun hc0 => ?_)
  · skip
    exact absurd rfl hc0 -- done
  · skip
    refine cod_skip ?_
    refine ex_then ?_
    refine cod_seq ?_
    refine cod_seq ?_
    refine cod_region ?_
    refine lst_move rfl rfl ?_
    refine lst_len rfl rfl Tryd.underlying22 ?_
    refine lst_move rfl rfl ?_
    refine lst_nil ?_
    refine ex_then ?_
    refine cod_block ?_
    refine cod_loop (G := Nat) (fun k => k ≤ 1) (fun k => 1 - k) (fun k => [(2, .pointer (some ⟨b2, 0, none⟩)), (14, .slice lA 1 lc), (15, .int .i64 1), (16, .int .i64 (k : Int))]) (fun k => [.blk b2 (.cells [.slice vA vs.length vc, .slice rA rs.length rc].toArray 28 (0, 0))]) 0 (Nat.zero_le _) (by repeat (first | exact Sub.nil _ | refine Sub.cons rfl ?_)) (by repeat (first | exact List.Sublist.refl _ | exact List.nil_sublist _ | refine List.Sublist.cons_cons _ ?_ | refine List.Sublist.cons _ ?_)) ?_
    intro k hk
    (try dsimp only at hk ⊢)
    refine cod_seq ?_
    refine cod_region ?_
    refine lst_int rfl rfl rfl bin_lss ?_
    refine lst_nil ?_
    refine ex_then ?_
    refine cod_seq ?_
    refine cod_cond_dec rfl (fun hc1 => ?_) (fun hc1 => ?_)
    · skip
      obtain rfl : k = 0 := by omega
      obtain ⟨bl, ol, rfl, hbl, hcl⟩ := hL (by simp)
      refine cod_skip ?_
      refine ex_then ?_
      refine cod_seq ?_
      refine cod_block ?_
      refine cod_seq ?_
      refine cod_region ?_
      refine lst_index (j := 0) rfl rfl rfl Tryd.underlying22 F.ti3 rfl (by omega) ?_
      refine lst_load_at (v := .int .i64 (v : Int)) rfl rfl F.one3 (fun a w ha => ha.old (hcl 0 (v : Int) rfl 0 _ rfl) hbl) ?_
      refine lst_assign rfl rfl ?_
      refine lst_nil ?_
      refine ex_then ?_
      refine cod_seq ?_
      refine cod_region ?_
      refine lst_move rfl rfl ?_
      refine lst_field_z rfl rfl F.fi28_0 F.ti25 ?_
      refine lst_load rfl rfl F.one25 ?_
      refine lst_len rfl rfl Tryd.underlying25 ?_
      refine lst_int (v := .int .i64 ((vs.length : Int) - 1)) rfl rfl rfl (fun w => bin_sub w (wrap_i64' _ (by omega) (by omega))) ?_
      refine lst_fn0 (vs := [_, _, _]) rfl rfl F.ent31 (fun a w ha => outside_c (v : Int) 0 ((vs.length : Int) - 1) w) ?_
      refine lst_nil ?_
      refine ex_then ?_
      refine cod_cond_bool rfl (fun hc2 => ?_) (fun hc2 => ?_)
      · skip
        simp at hc2; omega -- done
      · skip
        refine cod_skip ?_
        refine ex_block_normal ?_
        refine ex_then ?_
        refine cod_region ?_
        refine lst_int rfl rfl rfl (fun w => bin_add w (wrap_i64' _ (by omega) (by omega))) ?_
        refine lst_move rfl rfl ?_
        refine lst_nil ?_
        refine ex_round 1 (by omega) (by (try dsimp only); omega) (by repeat (first | exact Sub.nil _ | refine Sub.cons rfl ?_)) (by repeat (first | exact List.Sublist.refl _ | exact List.nil_sublist _ | refine List.Sublist.cons_cons _ ?_ | refine List.Sublist.cons _ ?_))
    · skip
      refine cod_exit ?_
      refine ex_then_exit ?_
      refine ex_then_exit ?_
      refine ex_block_exit ?_
      refine ex_then ?_
      refine cod_seq ?_
      refine cod_region ?_
      refine lst_loadN rfl rfl F.agg28 F.ti28 ?_
      refine lst_call (X := Cd) (first := []) (cap := []) (vs := [_]) (p := fun d => d.vs = vs ∧ d.rs = rs ∧ d.vA = vA ∧ d.rA = rA ∧ d.tps.length = vs.length) (val := fun d => .pointer (some ⟨d.pc, 0, none⟩)) (rs := fun d => cellR d ++ [.blk b2 (.cells [.slice vA vs.length vc, .slice rA rs.length rc].toArray 28 (0, 0))]) rfl rfl rfl F.ent32 (fun a w ha => (open_c vA rA vc rc vs rs hn6 (fun i x hx => ⟨(hv i x hx).1, (hv i x hx).2.1⟩) w (hA.later ha.below)).mono (fun e w' h => by
          obtain ⟨d, h1, h2, h3, h4, h5, h6, h7⟩ := h
          exact ⟨d, ⟨h1, h2, h3, h4, h5⟩, h6, ha.more h7⟩)) ?_
      intro d hd
      refine lst_assign rfl rfl ?_
      refine lst_assign rfl rfl ?_
      refine lst_nil ?_
      refine ex_then ?_
      refine cod_ret ?_
      exact ex_ret rfl (fun a w ha => res_two rfl rfl rfl ha) (fun a w ha => ⟨d, hd.1, hd.2.1, hd.2.2.1, hd.2.2.2.1, hd.2.2.2.2, rfl, ha.grown (List.sublist_append_left _ _)⟩)

end Go.Proofs.YthkbagikmbcphaaDoor.N
namespace Go.Proofs.YthkbagikmbcphaaDoor.N
open Go Go.RowKit Go.Proofs
theorem F.ent20 : Enters Tryd.prog 20 := enters_of Tryd.func20 rfl (by kernel_rfl)
theorem F.ent21 : Enters Tryd.prog 21 := enters_of Tryd.func21 rfl (by kernel_rfl)
theorem F.ent22 : Enters Tryd.prog 22 := enters_of Tryd.func22 rfl (by kernel_rfl)
theorem Weight_c (vA rA : Option Addr) (vc rc v : Nat) (vs : List Vs) (rs : List Rd) (hn1 : 1 ≤ vs.length) (hn6 : vs.length ≤ 6) (hr6 : rs.length ≤ 6) (hv : ∀ (i : Nat) x, vs[i]? = some x → -1 ≤ x.fr ∧ x.fr < (i : Int) ∧ x.room ≤ 40 ∧ x.lo ≤ x.hi ∧ x.hi ≤ 20) (hr : ∀ (i : Nat) x, rs[i]? = some x → x.v < vs.length ∧ x.sc ≤ 2 ∧ x.sh ≤ 60 ∧ x.er ≤ 9) (hvn : v < vs.length) (hok : okN vs (nowN vs rs) = true) (w : World) (hA : RdL Vs.cells 4 w vA vs) (hB : RdL Rd.cells 4 w rA rs) (hE : w.cell? ⟨0, 0, none⟩ = some (iT 104)) : Calls Tryd.prog 7 #[.agg [.slice vA vs.length vc, .slice rA rs.length rc].toArray, .int .i64 (v : Int)] w fun e w' => e = .returned (.tuple #[.agg [.int .i64 (((wgtF vs (nowN vs rs) v 41).1 : Nat) : Int), .int .i64 (((wgtF vs (nowN vs rs) v 41).2 : Nat) : Int)].toArray, .int .i64 0]) ∧ Grew w w' [] := by
  refine enter_defers (N := 23) [(0, .agg [.slice vA vs.length vc, .slice rA rs.length rc].toArray), (1, .int .i64 (v : Int))] Tryd.func7 rfl Tryd.ntmps7 rfl rfl ?_
  refine cod_seq ?_
  refine cod_region ?_
  refine lst_box rfl rfl ?_
  intro b2
  refine lst_alloc rfl F.ti33 ?_
  intro b4
  refine lst_alloc rfl F.ti34 ?_
  intro b5
  refine lst_nil ?_
  refine ex_then ?_
  refine cod_seq ?_
  refine cod_region ?_
  refine lst_defer (first := []) (cap := []) (vs := [_]) rfl rfl ?_
  refine lst_nil ?_
  refine ex_then ?_
  refine cod_seq ?_
  refine cod_region ?_
  refine lst_loadN rfl rfl F.agg28 F.ti28 ?_
  refine lst_move rfl rfl ?_
  refine lst_lit (vs := [(0, _)]) rfl rfl Tryd.underlying22 F.ti3 rfl rfl rfl ?_
  intro b10
  refine lst_call (X := Cd) (first := []) (cap := []) (vs := [_, _]) (p := fun d => d.vs = vs ∧ d.rs = rs ∧ d.vA = vA ∧ d.rA = rA ∧ d.tps.length = vs.length) (val := fun d => .tuple [.pointer (some ⟨d.pc, 0, none⟩), .int .i64 0].toArray) (rs := fun d => .blk b10 (.cells [.int .i64 (v : Int)].toArray 3 (0, 0)) :: .blk b5 (.cells [.int .i64 0].toArray 34 (0, 0)) :: .blk b4 (.cells [.int .i64 0, .int .i64 0].toArray 33 (0, 0)) :: .blk b2 (.cells [.slice vA vs.length vc, .slice rA rs.length rc].toArray 28 (0, 0)) :: cellR d) rfl rfl rfl F.ent20 (fun a w ha => (begin_c vA rA (some ⟨b10, 0, none⟩) vc rc 1 v vs rs hn1 hn6 hr6 hv hr hvn w (hA.later ha.below) (hB.later ha.below) (blk_reads ha (cells := icell) (size := 1) (l := [(v : Int)]) (fun _ => rfl) rfl)).mono (fun e w' h => by
      obtain ⟨d, h1, h2, h3, h4, h5, h6, h7⟩ := h
      exact ⟨d, ⟨h1, h2, h3, h4, h5⟩, h6, (ha.more h7).perm List.perm_append_comm⟩)) ?_
  rintro d ⟨rfl, rfl, rfl, rfl, hdl⟩
  refine lst_move rfl rfl ?_
  refine lst_extract rfl rfl rfl ?_
  refine lst_extract rfl rfl rfl ?_
  refine lst_assign rfl rfl ?_
  refine lst_store rfl rfl F.ti34 rfl ?_
  refine lst_nil ?_
  refine ex_then ?_
  refine cod_seq ?_
  refine cod_seq ?_
  refine cod_region ?_
  refine lst_load rfl rfl F.one34 ?_
  refine lst_int rfl rfl rfl bin_neq ?_
  refine lst_nil ?_
  refine ex_then ?_
  refine cod_cond_dec rfl (fun hc0 => ?_) (fun hc0 => ?_)
  · skip
    exact absurd rfl hc0 -- done
  · skip
    refine cod_skip ?_
    refine ex_then ?_
    refine cod_seq ?_
    refine cod_region ?_
    refine lst_move rfl rfl ?_
    refine lst_move rfl rfl ?_
    refine lst_fn0 (v := .agg (St.cells (nowN d.vs d.rs)).toArray) (vs := [_]) rfl rfl F.ent22 (fun a w ha => must_c d hn1 hn6 hr6 hv hr hok w (cel_at ha (fun r hr => .tail _ (.tail _ (.tail _ (.tail _ hr)))) hdl (hA.later ha.below) (hB.later ha.below))) ?_
    refine lst_move rfl rfl ?_
    refine lst_fn0 (v := .agg [.int .i64 (((wgtF d.vs (nowN d.vs d.rs) v 41).1 : Nat) : Int), .int .i64 (((wgtF d.vs (nowN d.vs d.rs) v 41).2 : Nat) : Int)].toArray) (vs := [_, _, _]) rfl rfl F.ent21 (fun a w ha => weight_c d (nowN d.vs d.rs) v (by omega) (nowN_l1 _ _) (nowN_l2 _ _) (nowN_any _ _ hn6) (nowN_los _ _ (fun i x hx => (hv i x hx).2.2.2) hn6) hn1 hn6 hr6 hv hr w (cel_at ha (fun r hr => .tail _ (.tail _ (.tail _ (.tail _ hr)))) hdl (hA.later ha.below) (hB.later ha.below)) ((ha.below.cell (cell_lt hE)).trans hE)) ?_
    refine lst_store rfl rfl F.ti33 rfl ?_
    refine lst_store rfl rfl F.ti34 rfl ?_
    refine lst_nil ?_
    refine ex_then ?_
    refine cod_ret ?_
    exact ex_ret_caught (fun a w ha => ⟨_, res_cellN_cell (C := ⟨Tryd.prog, _, _, _, _⟩) (fn := Tryd.f7) rfl rfl rfl F.agg33 F.ti33 F.one34 rfl ha, rfl, ha.grown (List.nil_sublist _)⟩)

end Go.Proofs.YthkbagikmbcphaaDoor.N
namespace Go.Proofs.YthkbagikmbcphaaDoor.N
open Go Go.RowKit Go.Proofs
/-! Melts made of numbers. -/
def sumK (vs : List Vs) (ws : List Nat) (m i : Nat) : Nat := sumN (((List.range' m (vs.length - m)).filter fun k => decide ((vs.getD k default).fr = (i : Int))).map fun k => ws.getD k 0)
theorem sumK_end (vs : List Vs) (ws : List Nat) (i : Nat) : sumK vs ws vs.length i = 0 := by
  unfold sumK
  rw [Nat.sub_self]; rfl
theorem sumK_step {vs : List Vs} {ws : List Nat} {m i : Nat} (h : m < vs.length) : sumK vs ws m i = (if (vs.getD m default).fr = (i : Int) then ws.getD m 0 else 0) + sumK vs ws (m + 1) i := by
  unfold sumK
  rw [show vs.length - m = (vs.length - (m + 1)) + 1 by omega, List.range'_succ]
  by_cases e : (vs.getD m default).fr = (i : Int)
  · rw [List.filter_cons_of_pos (by simpa using e), List.map_cons, sumN_cons, if_pos e]
  · rw [List.filter_cons_of_neg (by simpa using e), if_neg e, Nat.zero_add]
theorem sumK_congr {vs vs' : List Vs} {ws ws' : List Nat} {m : Nat} (i : Nat) (hl : vs'.length = vs.length) (hf : ∀ k, (vs'.getD k default).fr = (vs.getD k default).fr) (hw : ∀ k, m ≤ k → ws'.getD k 0 = ws.getD k 0) : sumK vs' ws' m i = sumK vs ws m i := by
  unfold sumK
  rw [hl]
  congr 1
  rw [show (fun k => decide ((vs'.getD k default).fr = (i : Int))) = fun k => decide ((vs.getD k default).fr = (i : Int)) from funext fun k => by rw [hf k]]
  exact List.map_congr_left fun k hk => hw k (List.mem_range'_1.1 (List.mem_filter.1 hk).1).1
theorem sumK_kids {vs : List Vs} {ws : List Nat} {i : Nat} (hi : i < vs.length) (hf : ∀ k, k < vs.length → (vs.getD k default).fr < (k : Int)) : sumK vs ws (i + 1) i = sumN ((kids vs i).map fun k => ws.getD k 0) := by
  unfold sumK kids
  have h : List.range vs.length = List.range' 0 (i + 1) ++ List.range' (i + 1) (vs.length - (i + 1)) := by
    have := List.range'_append (s := 0) (m := i + 1) (n := vs.length - (i + 1)) (step := 1)
    rw [Nat.one_mul, Nat.zero_add] at this
    rw [this, List.range_eq_range']
    congr 1
    omega
  rw [h, List.filter_append]
  have h0 : (List.range' 0 (i + 1)).filter (fun k => decide ((vs.getD k default).fr = (i : Int))) = [] := by
    rw [List.filter_eq_nil_iff]
    intro k hk
    have hk' := List.mem_range'_1.1 hk
    have := hf k (by omega)
    simp only [decide_eq_true_eq]
    omega
  rw [h0, List.nil_append]
structure Dn (vs : List Vs) (ws ss : List Nat) (m : Nat) : Prop where
  hm : m ≤ vs.length
  hn : vs.length ≤ 4
  wl : ws.length = vs.length
  sl : ss.length = vs.length
  fr : ∀ i, i < vs.length → -1 ≤ (vs.getD i default).fr ∧ (vs.getD i default).fr < (i : Int)
  room : ∀ i, m ≤ i → i < vs.length → (vs.getD i default).room ≤ 40 ∧ ws.getD i 0 ≤ (vs.getD i default).room
  los : ∀ i, m ≤ i → i < vs.length → (vs.getD i default).lo ≤ (vs.getD i default).hi ∧ (vs.getD i default).hi ≤ 20
  sum : ∀ i, m ≤ i → i < vs.length → kids vs i ≠ [] → ∃ l, (vs.getD i default).lo ≤ l ∧ l ≤ (vs.getD i default).hi ∧ ws.getD i 0 = sumN ((kids vs i).map fun k => ws.getD k 0) + l
  ssum : ∀ i, i < m → ss.getD i 0 = sumK vs ws m i
  big : ∀ i, ss.getD i 0 ≤ 10 + 40 * (vs.length - m)
theorem getV_set {vs : List Vs} {i j : Nat} {v : Vs} (hi : i < vs.length) : (vs.set i v).getD j default = if i = j then v else vs.getD j default := by
  rw [List.getD_eq_getElem?_getD, List.getElem?_set, List.getD_eq_getElem?_getD]
  by_cases e : i = j
  · rw [if_pos e, if_pos e, if_pos (by omega)]; rfl
  · rw [if_neg e, if_neg e]
theorem kids_congr {vs vs' : List Vs} (hl : vs'.length = vs.length) (hf : ∀ k, (vs'.getD k default).fr = (vs.getD k default).fr) (i : Nat) : kids vs' i = kids vs i := by
  unfold kids
  rw [hl, show (fun k => decide ((vs'.getD k default).fr = (i : Int))) = fun k => decide ((vs.getD k default).fr = (i : Int)) from funext fun k => by rw [hf k]]
theorem kids_gt {vs : List Vs} (hf : ∀ i, i < vs.length → -1 ≤ (vs.getD i default).fr ∧ (vs.getD i default).fr < (i : Int)) {i k : Nat} (h : k ∈ kids vs i) : i < k := by
  obtain ⟨h1, h2⟩ := kids_lt h
  have := (hf k h1).2
  omega
/-- One vessel more: the one before the last that is done. -/
theorem Dn.step {vs : List Vs} {ws ss ss1 ss2 : List Nat} {i w lost : Nat} {v' : Vs} (h : Dn vs ws ss (i + 1)) (hfr : v'.fr = (vs.getD i default).fr)
    (h1 : kids vs i ≠ [] ∧ ss1 = ss ∨ kids vs i = [] ∧ ∃ x, x ≤ 10 ∧ ss1 = ss.set i x) (hw : w = ss1.getD i 0 + lost) (_hw40 : w ≤ 40) (hr : v'.room ≤ 40 ∧ w ≤ v'.room) (hl : v'.lo ≤ lost ∧ lost ≤ v'.hi ∧ v'.hi ≤ 20)
    (h2 : (vs.getD i default).fr < 0 ∧ ss2 = ss1 ∨ ∃ p : Nat, (vs.getD i default).fr = (p : Int) ∧ ss2 = ss1.set p (ss1.getD p 0 + w)) : Dn (vs.set i v') (ws.set i w) ss2 i := by
  have hi : i < vs.length := by have := h.hm; omega
  have hwl := h.wl
  have hsl := h.sl
  have hff : ∀ k, ((vs.set i v').getD k default).fr = (vs.getD k default).fr := fun k => by
    rw [getV_set hi]
    split
    · rename_i e; subst e; exact hfr
    · rfl
  have hk : ∀ j, kids (vs.set i v') j = kids vs j := kids_congr (List.length_set ..) hff
  have hwg : ∀ j, (ws.set i w).getD j 0 = if i = j then w else ws.getD j 0 := fun j => getN_set' (by omega)
  have hl1 : ss1.length = vs.length := by
    rcases h1 with ⟨_, rfl⟩ | ⟨_, x, _, rfl⟩
    · exact hsl
    · rw [List.length_set]; exact hsl
  have hg1 : ∀ j, j ≠ i → ss1.getD j 0 = ss.getD j 0 := fun j hj => by
    rcases h1 with ⟨_, rfl⟩ | ⟨_, x, _, rfl⟩
    · rfl
    · rw [getN_set' (by omega), if_neg (by omega)]
  have hsumk : ∀ j, i ≤ j → (kids vs j).map (fun k => (ws.set i w).getD k 0) = (kids vs j).map fun k => ws.getD k 0 := fun j hj => List.map_congr_left fun k hkk => by
    have := kids_gt h.fr hkk
    rw [hwg, if_neg (by omega)]
  refine ⟨by rw [List.length_set]; omega, by rw [List.length_set]; exact h.hn, by rw [List.length_set, List.length_set]; exact hwl, ?_, fun j hj => ?_, fun j h3 h4 => ?_, fun j h3 h4 => ?_, fun j h3 h4 h5 => ?_, fun j hj => ?_, fun j => ?_⟩
  · rw [List.length_set]
    rcases h2 with ⟨_, rfl⟩ | ⟨p, _, rfl⟩
    · exact hl1
    · rw [List.length_set]; exact hl1
  · rw [List.length_set] at hj
    rw [hff]; exact h.fr j hj
  · rw [List.length_set] at h4
    rw [getV_set hi, hwg]
    by_cases e : i = j
    · rw [if_pos e, if_pos e]; exact hr
    · rw [if_neg e, if_neg e]; exact h.room j (by omega) h4
  · rw [List.length_set] at h4
    rw [getV_set hi]
    by_cases e : i = j
    · rw [if_pos e]; omega
    · rw [if_neg e]; exact h.los j (by omega) h4
  · rw [List.length_set] at h4
    rw [hk] at h5 ⊢
    rw [getV_set hi, hwg, hsumk j h3]
    by_cases e : i = j
    · subst e
      rw [if_pos rfl, if_pos rfl]
      refine ⟨lost, hl.1, hl.2.1, ?_⟩
      rcases h1 with ⟨_, rfl⟩ | ⟨h6, _⟩
      · rw [hw, h.ssum i (by omega), sumK_kids hi fun k hk => (h.fr k hk).2]
      · exact absurd h6 h5
    · rw [if_neg e, if_neg e]
      exact h.sum j (by omega) h4 h5
  · have hlen : i < (vs.set i v').length := by rw [List.length_set]; exact hi
    rw [sumK_step hlen, hff, hwg, if_pos rfl, sumK_congr (vs := vs) (ws := ws) j (List.length_set ..) hff (fun k hk => by rw [hwg, if_neg (by omega)])]
    have h6 := h.ssum j (by omega)
    have h7 := hg1 j (by omega)
    rcases h2 with ⟨h8, rfl⟩ | ⟨p, h8, rfl⟩
    · rw [if_neg (by omega)]; omega
    · have hp := (h.fr i hi).2
      rw [getN_set' (by omega)]
      by_cases e : p = j
      · rw [if_pos e, if_pos (by omega)]; subst e; omega
      · rw [if_neg e, if_neg (by omega)]; omega
  · rw [List.length_set]
    have hb := h.big j
    have h6 : ss1.getD j 0 ≤ 10 + 40 * (vs.length - (i + 1)) := by
      rcases h1 with ⟨_, rfl⟩ | ⟨_, x, hx, rfl⟩
      · exact hb
      · rw [getN_set' (by omega)]
        split
        · omega
        · exact hb
    rcases h2 with ⟨h8, rfl⟩ | ⟨p, h8, rfl⟩
    · omega
    · have hp := (h.fr i hi).2
      rw [getN_set' (by omega)]
      split
      · rename_i e; subst e; omega
      · omega
theorem Dn.start {vs : List Vs} (hn : vs.length ≤ 4) (fr : ∀ i, i < vs.length → -1 ≤ (vs.getD i default).fr ∧ (vs.getD i default).fr < (i : Int)) : Dn vs (List.replicate vs.length 0) (List.replicate vs.length 0) vs.length := by
  refine ⟨Nat.le_refl _, hn, List.length_replicate, List.length_replicate, fr, fun i h1 h2 => by omega, fun i h1 h2 => by omega, fun i h1 h2 => by omega, fun i hi => ?_, fun i => ?_⟩
  · rw [sumK_end, List.getD_eq_getElem?_getD, List.getElem?_replicate, if_pos hi]; rfl
  · rw [List.getD_eq_getElem?_getD, List.getElem?_replicate]
    split <;> exact Nat.zero_le _
theorem Dn.melt {vs : List Vs} {ws ss : List Nat} {rs : List Rd} (h : Dn vs ws ss 0) (h1 : 1 ≤ vs.length) (r6 : rs.length ≤ 6) (rd : ∀ r ∈ rs, r.v < vs.length ∧ r.sc ≤ 2 ∧ r.er ≤ 9 ∧ r.sh ≤ 60 ∧ (r.sh : Int) - r.er ≤ (ws.getD r.v 0 : Int) ∧ ((ws.getD r.v 0 : Nat) : Int) ≤ (r.sh : Int) + r.er) : Melt vs rs ws :=
  ⟨h1, h.hn, h.wl, h.fr, fun i hi => h.room i (Nat.zero_le _) hi, fun i hi => h.los i (Nat.zero_le _) hi, fun i hi hk => h.sum i (Nat.zero_le _) hi hk, r6, rd⟩
theorem melt_zero : Melt [⟨-1, 5, 0, 0⟩] [] [0] :=
  ⟨by decide, by decide, rfl, fun i hi => by obtain rfl : i = 0 := by simp at hi; exact hi
                                             decide, fun i hi => by obtain rfl : i = 0 := by simp at hi; exact hi
                                                                    decide, fun i hi => by obtain rfl : i = 0 := by simp at hi; exact hi
                                                                                           decide, fun i hi hk => by obtain rfl : i = 0 := by simp at hi; exact hi
                                                                                                                     exact absurd (by decide) hk, by decide, fun r hr => by cases hr⟩
end Go.Proofs.YthkbagikmbcphaaDoor.N
namespace Go.Proofs.YthkbagikmbcphaaDoor.N
open Go Go.RowKit Go.Proofs
section
variable {C : Ctx} {fr : List (Nat × Value)} {hp : List Res} {pos : String} {after : Array Edge} {ty : TypeId}
theorem yld_neg {dst : Option Tmp} {x : Operand} {t : TypeId} {kd : IntKind} {m r : Int} (hx : ev fr x = some (.int kd m)) (hr : kd.wrap (-m) = r) : Yld C ⟨dst, .unOp .neg t x, ty, pos, after, none⟩ fr hp (.int kd r) := ⟨rfl, fun a w ha => by subst hr; simp [execOp, ha.eval hx, Op.unary, Op.intArith]⟩
end
theorem ints_get' {l : List Nat} {i : Nat} (h : i < l.length) : (ints l)[0 + i * 1]? = some (.int .i64 ((l.getD i 0 : Nat) : Int)) := by
  rw [Nat.zero_add, Nat.mul_one, ints_flat]
  have := flatMap_get (cells := ncell) (size := 1) (fun _ => rfl) l i (l.getD i 0) (getD_some' h) 0 _ rfl
  rw [Nat.mul_one, Nat.add_zero] at this
  exact this
theorem splice_intsT {l : List Nat} {i x : Nat} (h : i < l.length) : Splice (ints l) (0 + i * 1) [.int .i64 (x : Int)] (ints (l.set i x)) := by
  rw [ints_flat, ints_flat]
  exact flat_splice (cells := ncell) (size := 1) (fun _ => rfl) h x
theorem splice_app {l vs out : List Value} {o : Nat} (r : List Value) (h : Splice l o vs out) : Splice (l ++ r) o vs (out ++ r) := by
  have hl := h.len
  refine ⟨?_, by rw [List.length_append]; omega⟩
  rw [h.eq, List.take_append_of_le_length (by omega), List.drop_append_of_le_length (by omega), List.append_assoc, List.append_assoc]
/-- Some cells of one element. -/
theorem flat_splice_in {α : Type} {cells : α → List Value} {size : Nat} (hs : ∀ x, (cells x).length = size) {l : List α} {i off : Nat} {x y : α} {vs : List Value} (hi : l[i]? = some x) (h : Splice (cells x) off vs (cells y)) :
    Splice (l.flatMap cells) (0 + i * size + off) vs ((l.set i y).flatMap cells) := by
  obtain ⟨hil, he⟩ := List.getElem?_eq_some_iff.1 hi
  have e1 : l = l.take i ++ x :: l.drop (i + 1) := by rw [← he, List.getElem_cons_drop, List.take_append_drop]
  have e2 : l.set i y = l.take i ++ y :: l.drop (i + 1) := by rw [List.set_eq_take_append_cons_drop, if_pos hil]
  rw [e2]
  have e3 : l.flatMap cells = (l.take i).flatMap cells ++ (cells x ++ (l.drop (i + 1)).flatMap cells) := by
    conv => lhs; rw [e1]
    rw [List.flatMap_append, List.flatMap_cons]
  rw [e3, List.flatMap_append, List.flatMap_cons]
  have hn : ((l.take i).flatMap cells).length = 0 + i * size := by rw [flatMap_len hs, List.length_take, Nat.min_eq_left (by omega), Nat.zero_add]
  exact splice_right hn (splice_app _ h)
theorem vs_some {vs : List Vs} {i : Nat} (hi : i < vs.length) : vs[i]? = some (vs.getD i default) := by rw [List.getD_eq_getElem?_getD, List.getElem?_eq_getElem hi]; rfl
theorem vs_get {vs : List Vs} {i j : Nat} {u : Value} (hi : i < vs.length) (hu : (vs.getD i default).cells[j]? = some u) : (vs.flatMap Vs.cells)[0 + i * 4 + j]? = some u := by
  rw [Nat.zero_add]
  exact flatMap_get (cells := Vs.cells) (size := 4) (fun _ => rfl) vs i _ (vs_some hi) j u hu
theorem vs_los {vs : List Vs} {i a b : Nat} (hi : i < vs.length) : Splice (vs.flatMap Vs.cells) (0 + i * 4 + 2) [.int .i64 (a : Int), .int .i64 (b : Int)] ((vs.set i ⟨(vs.getD i default).fr, (vs.getD i default).room, a, b⟩).flatMap Vs.cells) :=
  flat_splice_in (cells := Vs.cells) (size := 4) (fun _ => rfl) (vs_some hi) ⟨rfl, Nat.le_refl 4⟩
theorem vs_room {vs : List Vs} {i r : Nat} (hi : i < vs.length) : Splice (vs.flatMap Vs.cells) (0 + i * 4 + 1) [.int .i64 (r : Int)] ((vs.set i ⟨(vs.getD i default).fr, r, (vs.getD i default).lo, (vs.getD i default).hi⟩).flatMap Vs.cells) :=
  flat_splice_in (cells := Vs.cells) (size := 4) (fun _ => rfl) (vs_some hi) ⟨rfl, show (2 : Nat) ≤ 4 by decide⟩
end Go.Proofs.YthkbagikmbcphaaDoor.N
namespace Go.Proofs.YthkbagikmbcphaaDoor.N
open Go Go.RowKit Go.Proofs
variable {C : Ctx} {fr : List (Nat × Value)} {hp hp' : List Res} {ops : Array Oper} {Q : Exit → Act → World → Prop} {rest : List Oper} {d : Nat} {ty : TypeId} {pos : String} {after : Array Edge}
theorem splice_take {cur xs vs out : List Value} {o L : Nat} (hx : cur.take L = xs) (hL : xs.length = L) (hs : Splice xs o vs out) : (cur.take o ++ vs ++ cur.drop (o + vs.length)).take L = out ∧ out.length = L := by
  have hl := hs.len
  have hcl : L ≤ cur.length := by
    have := congrArg List.length hx
    rw [List.length_take] at this
    omega
  have e : out = xs.take o ++ vs ++ xs.drop (o + vs.length) := hs.eq
  constructor
  · rw [e, ← hx]
    apply List.ext_getElem?
    intro i
    simp only [List.getElem?_take, List.getElem?_append, List.length_append, List.length_take, List.getElem?_drop]
    by_cases h1 : i < L
    · by_cases h2 : i < o
      · have h3 : i < min o cur.length := by omega
        have h4 : i < min o cur.length + vs.length := by omega
        have h5 : i < min o (min L cur.length) := by omega
        have h6 : i < min o (min L cur.length) + vs.length := by omega
        simp [h1, h2, h3, h4, h5, h6]
      · have e1 : min o cur.length = o := by omega
        have e2 : min o (min L cur.length) = o := by omega
        rw [e1, e2]
        by_cases h3 : i < o + vs.length
        · simp [h1, h2, h3]
        · have h4 : o + vs.length + (i - (o + vs.length)) < L := by omega
          simp [h1, h3, h4]
    · have h2 : ¬ i < min o (min L cur.length) := by omega
      have h3 : ¬ i < min o (min L cur.length) + vs.length := by omega
      have h4 : ¬ o + vs.length + (i - (min o (min L cur.length) + vs.length)) < L := by omega
      simp only [if_neg h1, if_neg h3, if_neg h4]
  · rw [e]
    simp
    omega
/-- A store, of one cell or of several, into a slice that is owned. -/
theorem lst_store_row {x y : Operand} {t e g o size N c n m : Nat} {xs vs out : List Value} {v z : Value} (hx : ev fr x = some (.pointer (some ⟨g, o, none⟩))) (hy : ev fr y = some v) (hi : TI C.P t z n m) [hc : Cells v vs] (hn : vs.length = n) (hs : Splice xs o vs out)
    (hu : Upd (.row e size (some ⟨g, 0, none⟩) N c xs) (.row e size (some ⟨g, 0, none⟩) N c out) hp hp')
    (k : Lst C ops Q rest fr hp') : Lst C ops Q (⟨none, .store t x y, ty, pos, after, none⟩ :: rest) fr hp := by
  obtain ⟨i, hi, _, hsz, _⟩ := hi
  refine lst_skip (fun a w ha => ?_) k
  obtain ⟨hlen, hown⟩ := ha.own _ hu.mem
  rcases hown with ⟨h1, _⟩ | ⟨g', cap, cur, hv, hb, hg, hnc, hm, hsize, htake⟩
  · cases h1
  · simp only [Value.slice.injEq, Option.some.injEq, Addr.mk.injEq, and_true, true_and] at hv
    obtain ⟨rfl, rfl⟩ := hv
    obtain ⟨ht1, ht2⟩ := splice_take htake hlen hs
    have hl := hs.len
    have hcl : N * size ≤ c * size := Nat.mul_le_mul_right size hnc
    have hcs : cur.toList.length = cur.size := Array.length_toList
    have hspl0 : o + vs.length ≤ cur.toList.length := by rw [hcs, hsize]; exact Nat.le_trans hl (by rw [hlen]; exact hcl)
    have hspl : Splice cur.toList o vs (cur.toList.take o ++ vs ++ cur.toList.drop (o + vs.length)) := ⟨rfl, hspl0⟩
    obtain ⟨w', s1, s2, s3⟩ := splice_upd hspl (t := e) (b := g) (w := w) (by rw [Array.toArray_toList]; exact hg) hc.one C.P
    refine ⟨w', ?_, ha.turn hu s3 ⟨ht2, .inr ⟨g, c, _, rfl, hb, s2, hnc, hm, ?_, ?_⟩⟩ (fun k hk => .inl hk)⟩
    · simp [execOp, ha.eval hx, ha.eval hy, Instr.storeAt, Instr.sureAddr, storeVar, sizeOf, typeInfo, hi, hc.eq, hn, hsz, s1]
    · simp
      omega
    · rw [List.toList_toArray]
      exact ht1
end Go.Proofs.YthkbagikmbcphaaDoor.N
