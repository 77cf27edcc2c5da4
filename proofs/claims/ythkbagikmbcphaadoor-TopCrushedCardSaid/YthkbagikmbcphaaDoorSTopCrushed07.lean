/- Parts of the walk of the law TopCrushed: T17, T18, T19, TopX. -/
import Derived.Test.YthkbagikmbcphaaDoorSTopCrushed06
import Derived.Test.YthkbagikmbcphaaDoorProg
import Derived.Test.YthkbagikmbcphaaDoorSTopCrushed00
import Derived.Test.YthkbagikmbcphaaDoorSTopCrushed01
import Derived.Test.YthkbagikmbcphaaDoorSTopCrushed02
import Derived.Test.YthkbagikmbcphaaDoorSTopCrushed04
namespace Go.Proofs.YthkbagikmbcphaaDoor.N
open Go Go.RowKit Go.Proofs
theorem F.ent45 : Enters Tryd.prog 45 := enters_of Tryd.func45 rfl (by kernel_rfl)
theorem F.ent47 : Enters Tryd.prog 47 := enters_of Tryd.func47 rfl (by kernel_rfl)
theorem F.one164 : One Tryd.prog 164 := ⟨by unfold aggB; rw [Tryd.underlying164], by rw [Tryd.underlying164]; simp⟩
theorem F.one82 : One Tryd.prog 82 := ⟨by unfold aggB; rw [Tryd.underlying82], by rw [Tryd.underlying82]; simp⟩
theorem grow_a {C : Ctx} {fr : List (Nat × Value)} {T : List Res} {a : Act} {w : World} (hC : C.P = Tryd.prog) {l : List Nat} {lA : Option Addr} {lc Lb Sb Wb st p r sb wb yb gb : Nat} {rec : Loop} (hB : C.w0.heap.size = C.B) (hM : SawM C.w0 l lA lc Lb Sb Wb st p) {k : Nat} (hk : k ≤ st) (hlt : k * sumN l < p) (ha : At C fr (.blk gb (.cells [.func (.func 70) ([] : List Value).toArray [.pointer (some ⟨sb, 0, none⟩), .pointer (some ⟨wb, 0, none⟩), .pointer (some ⟨yb, 0, none⟩), .pointer (some ⟨gb, 0, none⟩)].toArray].toArray 166 (0, 0)) :: .blk yb (.cells [.func (.yield r) #[] #[]].toArray 164 (0, 0)) :: .blk r (.loop rec) :: .blk sb (.cells [.slice (some ⟨Lb, 0, none⟩) 1 1, .slice (some ⟨Sb, 0, none⟩) 1 1, .int .i64 1, .slice (some ⟨Wb, 0, none⟩) 1 1].toArray 78 (0, 0)) :: .blk wb (.cells [.int .u8 1].toArray 82 (0, 0)) :: T) a w) : Calls C.P 70 #[.agg [.int .i64 (k : Int), .int .i64 0, .int .i64 0].toArray, .int .i64 1, .pointer (some ⟨sb, 0, none⟩), .pointer (some ⟨wb, 0, none⟩), .pointer (some ⟨yb, 0, none⟩), .pointer (some ⟨gb, 0, none⟩)] w fun e w' => e = .returned (.bool true) ∧ At C fr (.blk gb (.cells [.func (.func 70) ([] : List Value).toArray [.pointer (some ⟨sb, 0, none⟩), .pointer (some ⟨wb, 0, none⟩), .pointer (some ⟨yb, 0, none⟩), .pointer (some ⟨gb, 0, none⟩)].toArray].toArray 166 (0, 0)) :: .blk yb (.cells [.func (.yield r) #[] #[]].toArray 164 (0, 0)) :: .blk r (.loop rec) :: .blk sb (.cells [.slice (some ⟨Lb, 0, none⟩) 1 1, .slice (some ⟨Sb, 0, none⟩) 1 1, .int .i64 1, .slice (some ⟨Wb, 0, none⟩) 1 1].toArray 78 (0, 0)) :: .blk wb (.cells [.int .u8 1].toArray 82 (0, 0)) :: T) a w' := by
  have hks : k * sumN l ≤ 144 := by
    have h1 := hM.sum36
    have h2 := hM.st4
    exact Nat.le_trans (Nat.mul_le_mul (show k ≤ 4 by omega) h1) (by decide)
  obtain ⟨P, B, w0, N0, ds⟩ := C
  obtain rfl : P = Tryd.prog := hC
  (try dsimp only at hB)
  (try dsimp only at hN)
  refine enter_in (N := 48) [(0, .agg [.int .i64 (k : Int), .int .i64 0, .int .i64 0].toArray), (1, .int .i64 1), (2, .pointer (some ⟨sb, 0, none⟩)), (3, .pointer (some ⟨wb, 0, none⟩)), (4, .pointer (some ⟨yb, 0, none⟩)), (5, .pointer (some ⟨gb, 0, none⟩))] ha Tryd.func70 rfl Tryd.ntmps70 rfl rfl ?_
  refine cod_seq ?_
  refine cod_region ?_
  refine lst_box rfl rfl ?_
  intro b6
  refine lst_assign rfl rfl ?_
  refine lst_nil ?_
  refine ex_then ?_
  refine cod_seq ?_
  refine cod_seq ?_
  refine cod_region ?_
  refine lst_move rfl rfl ?_
  refine lst_field_z rfl rfl F.fi78_0 F.ti40 ?_
  refine lst_field_z rfl rfl F.fi40_0 F.ti37 ?_
  refine lst_load rfl rfl F.one37 ?_
  refine lst_len rfl rfl Tryd.underlying37 ?_
  refine lst_int rfl rfl rfl bin_eql ?_
  refine lst_nil ?_
  refine ex_then ?_
  refine cod_cond_true rfl ?_
  refine cod_seq ?_
  refine any_begin [] F.follows 13 rfl [false, false, false, false, false, false, false, false, false, false, false, false, false] rfl ?_
  refine any_take (listed' := [true, false, false, false, false, false, false, false, false, false, false, false, false].toArray) 0 rfl rfl rfl (by kernel_rfl) (by kernel_rfl) (by kernel_rfl) (by repeat (first | exact List.Sublist.refl _ | exact List.nil_sublist _ | refine List.Sublist.cons_cons _ ?_ | refine List.Sublist.cons _ ?_)) (yld_loadN rfl F.agg78 F.ti78) rfl ?_
  refine any_take (listed' := [true, true, false, false, false, false, false, false, false, false, false, false, false].toArray) 1 rfl rfl rfl (by kernel_rfl) (by kernel_rfl) (by kernel_rfl) (by repeat (first | exact List.Sublist.refl _ | exact List.nil_sublist _ | refine List.Sublist.cons_cons _ ?_ | refine List.Sublist.cons _ ?_)) (yld_loadN rfl F.agg78 F.ti78) rfl ?_
  refine any_take (listed' := [true, true, true, false, false, false, false, false, false, false, false, false, false].toArray) 2 rfl rfl rfl (by kernel_rfl) (by kernel_rfl) (by kernel_rfl) (by repeat (first | exact List.Sublist.refl _ | exact List.nil_sublist _ | refine List.Sublist.cons_cons _ ?_ | refine List.Sublist.cons _ ?_)) (yld_load rfl F.one82) rfl ?_
  refine any_take (listed' := [true, true, true, true, false, false, false, false, false, false, false, false, false].toArray) 3 rfl rfl rfl (by kernel_rfl) (by kernel_rfl) (by kernel_rfl) (by repeat (first | exact List.Sublist.refl _ | exact List.nil_sublist _ | refine List.Sublist.cons_cons _ ?_ | refine List.Sublist.cons _ ?_)) (yld_loadN rfl F.agg86 F.ti86) rfl ?_
  refine any_one (listed' := [true, true, true, true, true, false, false, false, false, false, false, false, false].toArray) 4 (by kernel_rfl) rfl rfl ?_
  refine lst_fn0 (vs := [_, _, _]) rfl rfl F.ent45 (fun a w ha => splan_c l lA lc Lb Sb Wb st p k (by have := hM.st4; omega) hks w (hM.later (by rw [hB]; exact ha.below))) ?_
  refine lst_nil ?_
  refine any_next (by repeat (first | exact List.Sublist.refl _ | exact List.nil_sublist _ | refine List.Sublist.cons_cons _ ?_ | refine List.Sublist.cons _ ?_)) ?_
  refine any_one (listed' := [true, true, true, true, true, true, false, false, false, false, false, false, false].toArray) 5 (by kernel_rfl) rfl rfl ?_
  refine lst_fn0 (v := .iface 148 (.agg [.int .i64 9].toArray)) (vs := [_, _]) rfl rfl F.ent47 (fun a w ha => (sright_c l lA lc Lb Sb Wb st p k (k * sumN l) hk (by omega) w (hM.later (by rw [hB]; exact ha.below))).mono (fun e w' h => ⟨by rw [h.1, if_pos hlt], h.2⟩)) ?_
  refine lst_nil ?_
  refine any_next (by repeat (first | exact List.Sublist.refl _ | exact List.nil_sublist _ | refine List.Sublist.cons_cons _ ?_ | refine List.Sublist.cons _ ?_)) ?_
  refine any_one (listed' := [true, true, true, true, true, true, true, false, false, false, false, false, false].toArray) 6 (by kernel_rfl) rfl rfl ?_
  refine lst_bin (v := .bool true) rfl rfl rfl (run_neq_nil_no Tryd.underlying104 _) ?_
  refine lst_nil ?_
  refine any_next (by repeat (first | exact List.Sublist.refl _ | exact List.nil_sublist _ | refine List.Sublist.cons_cons _ ?_ | refine List.Sublist.cons _ ?_)) ?_
  refine any_take (listed' := [true, true, true, true, true, true, true, true, false, false, false, false, false].toArray) 7 rfl rfl rfl (by kernel_rfl) (by kernel_rfl) (by kernel_rfl) (by repeat (first | exact List.Sublist.refl _ | exact List.nil_sublist _ | refine List.Sublist.cons_cons _ ?_ | refine List.Sublist.cons _ ?_)) (yld_move rfl) rfl ?_
  refine any_take_off (listed' := [true, true, true, true, true, true, true, true, true, false, false, false, false].toArray) 8 rfl rfl rfl rfl rfl (by kernel_rfl) (by kernel_rfl) (by kernel_rfl) (by repeat (first | exact List.Sublist.refl _ | exact List.nil_sublist _ | refine List.Sublist.cons_cons _ ?_ | refine List.Sublist.cons _ ?_)) rfl ?_
  refine any_take_off (listed' := [true, true, true, true, true, true, true, true, true, true, false, false, false].toArray) 9 rfl rfl rfl rfl rfl (by kernel_rfl) (by kernel_rfl) (by kernel_rfl) (by repeat (first | exact List.Sublist.refl _ | exact List.nil_sublist _ | refine List.Sublist.cons_cons _ ?_ | refine List.Sublist.cons _ ?_)) rfl ?_
  refine any_take_off (listed' := [true, true, true, true, true, true, true, true, true, true, true, false, false].toArray) 10 rfl rfl rfl rfl rfl (by kernel_rfl) (by kernel_rfl) (by kernel_rfl) (by repeat (first | exact List.Sublist.refl _ | exact List.nil_sublist _ | refine List.Sublist.cons_cons _ ?_ | refine List.Sublist.cons _ ?_)) rfl ?_
  refine any_take (listed' := [true, true, true, true, true, true, true, true, true, true, true, true, false].toArray) 11 rfl rfl rfl (by kernel_rfl) (by kernel_rfl) (by kernel_rfl) (by repeat (first | exact List.Sublist.refl _ | exact List.nil_sublist _ | refine List.Sublist.cons_cons _ ?_ | refine List.Sublist.cons _ ?_)) (yld_pick_true rfl rfl) rfl ?_
  refine any_take (listed' := [true, true, true, true, true, true, true, true, true, true, true, true, true].toArray) 12 rfl rfl rfl (by kernel_rfl) (by kernel_rfl) (by kernel_rfl) (by repeat (first | exact List.Sublist.refl _ | exact List.nil_sublist _ | refine List.Sublist.cons_cons _ ?_ | refine List.Sublist.cons _ ?_)) (yld_assign rfl) rfl ?_
  refine any_done rfl (by kernel_rfl) ?_
  refine ex_then ?_
  refine cod_ret ?_
  refine ex_then_ret ?_
  exact ex_ret rfl (fun a w ha => res_one rfl rfl ha) (fun _ _ ha' => ⟨rfl, ha.back (ha'.pck (by repeat (first | exact Pck.nil _ | exact Pck.refl _ | (apply Pck.cons; focus ((repeat (first | exact Rem.here _ | apply Rem.there)); done)) | refine Pck.skip _ ?_)))⟩)

theorem grow_b {C : Ctx} {fr : List (Nat × Value)} {T : List Res} {a : Act} {w : World} (hC : C.P = Tryd.prog) {l : List Nat} {lA : Option Addr} {lc Lb Sb Wb st p r sb wb yb gb : Nat} {rec : Loop} (hB : C.w0.heap.size = C.B) (hM : SawM C.w0 l lA lc Lb Sb Wb st p) {T' : List Res} {k : Nat} (hk : k ≤ st) (hge : p ≤ k * sumN l) (hY : YSpecIn C.P C.B C.w0 r (.agg [.int .i64 (k : Int), .int .i64 0, .int .i64 0].toArray) (.blk r (.loop rec) :: .blk sb (.cells [.slice (some ⟨Lb, 0, none⟩) 1 1, .slice (some ⟨Sb, 0, none⟩) 1 1, .int .i64 1, .slice (some ⟨Wb, 0, none⟩) 1 1].toArray 78 (0, 0)) :: .blk wb (.cells [.int .u8 1].toArray 82 (0, 0)) :: T) (.blk r (.loop rec) :: .blk sb (.cells [.slice (some ⟨Lb, 0, none⟩) 1 1, .slice (some ⟨Sb, 0, none⟩) 1 1, .int .i64 1, .slice (some ⟨Wb, 0, none⟩) 1 1].toArray 78 (0, 0)) :: .blk wb (.cells [.int .u8 1].toArray 82 (0, 0)) :: T')) (ha : At C fr (.blk gb (.cells [.func (.func 70) ([] : List Value).toArray [.pointer (some ⟨sb, 0, none⟩), .pointer (some ⟨wb, 0, none⟩), .pointer (some ⟨yb, 0, none⟩), .pointer (some ⟨gb, 0, none⟩)].toArray].toArray 166 (0, 0)) :: .blk yb (.cells [.func (.yield r) #[] #[]].toArray 164 (0, 0)) :: .blk r (.loop rec) :: .blk sb (.cells [.slice (some ⟨Lb, 0, none⟩) 1 1, .slice (some ⟨Sb, 0, none⟩) 1 1, .int .i64 1, .slice (some ⟨Wb, 0, none⟩) 1 1].toArray 78 (0, 0)) :: .blk wb (.cells [.int .u8 1].toArray 82 (0, 0)) :: T) a w) : Calls C.P 70 #[.agg [.int .i64 (k : Int), .int .i64 0, .int .i64 0].toArray, .int .i64 1, .pointer (some ⟨sb, 0, none⟩), .pointer (some ⟨wb, 0, none⟩), .pointer (some ⟨yb, 0, none⟩), .pointer (some ⟨gb, 0, none⟩)] w fun e w' => e = .returned (.bool true) ∧ At C fr (.blk gb (.cells [.func (.func 70) ([] : List Value).toArray [.pointer (some ⟨sb, 0, none⟩), .pointer (some ⟨wb, 0, none⟩), .pointer (some ⟨yb, 0, none⟩), .pointer (some ⟨gb, 0, none⟩)].toArray].toArray 166 (0, 0)) :: .blk yb (.cells [.func (.yield r) #[] #[]].toArray 164 (0, 0)) :: .blk r (.loop rec) :: .blk sb (.cells [.slice (some ⟨Lb, 0, none⟩) 1 1, .slice (some ⟨Sb, 0, none⟩) 1 1, .int .i64 1, .slice (some ⟨Wb, 0, none⟩) 1 1].toArray 78 (0, 0)) :: .blk wb (.cells [.int .u8 1].toArray 82 (0, 0)) :: T') a w' := by
  have hks : k * sumN l ≤ 144 := by
    have h1 := hM.sum36
    have h2 := hM.st4
    exact Nat.le_trans (Nat.mul_le_mul (show k ≤ 4 by omega) h1) (by decide)
  obtain ⟨P, B, w0, N0, ds⟩ := C
  obtain rfl : P = Tryd.prog := hC
  (try dsimp only at hB)
  (try dsimp only at hM)
  (try dsimp only at hY)
  refine enter_in (N := 48) [(0, .agg [.int .i64 (k : Int), .int .i64 0, .int .i64 0].toArray), (1, .int .i64 1), (2, .pointer (some ⟨sb, 0, none⟩)), (3, .pointer (some ⟨wb, 0, none⟩)), (4, .pointer (some ⟨yb, 0, none⟩)), (5, .pointer (some ⟨gb, 0, none⟩))] ha Tryd.func70 rfl Tryd.ntmps70 rfl rfl ?_
  refine cod_seq ?_
  refine cod_region ?_
  refine lst_box rfl rfl ?_
  intro b6
  refine lst_assign rfl rfl ?_
  refine lst_nil ?_
  refine ex_then ?_
  refine cod_seq ?_
  refine cod_seq ?_
  refine cod_region ?_
  refine lst_move rfl rfl ?_
  refine lst_field_z rfl rfl F.fi78_0 F.ti40 ?_
  refine lst_field_z rfl rfl F.fi40_0 F.ti37 ?_
  refine lst_load rfl rfl F.one37 ?_
  refine lst_len rfl rfl Tryd.underlying37 ?_
  refine lst_int rfl rfl rfl bin_eql ?_
  refine lst_nil ?_
  refine ex_then ?_
  refine cod_cond_true rfl ?_
  refine cod_seq ?_
  refine anyW_start F.follows 13 rfl [false, false, false, false, false, false, false, false, false, false, false, false, false] rfl ?_
  refine anyW_mid (fuelM := 8) (listedM := [true, true, true, true, true, false, false, false, false, false, false, false, false].toArray) (frM := [(16, .agg [.slice (some ⟨Lb, 0, none⟩) 1 1, .slice (some ⟨Sb, 0, none⟩) 1 1, .int .i64 1, .slice (some ⟨Wb, 0, none⟩) 1 1].toArray), (17, .agg [.slice (some ⟨Lb, 0, none⟩) 1 1, .slice (some ⟨Sb, 0, none⟩) 1 1, .int .i64 1, .slice (some ⟨Wb, 0, none⟩) 1 1].toArray), (18, .int .u8 1), (19, .agg [.int .i64 (k : Int), .int .i64 0, .int .i64 0].toArray), (20, .agg [.int .i64 (k : Int), .int .i64 0, .int .i64 0, .int .i64 (k * sumN l : Int), .int .i64 0, .int .i64 0, .int .i64 0, .int .i64 0, .int .i64 0, .int .i64 (p : Int)].toArray), (6, .pointer (some ⟨b6, 0, none⟩)), (8, .bool false), (0, .agg [.int .i64 (k : Int), .int .i64 0, .int .i64 0].toArray), (1, .int .i64 1), (2, .pointer (some ⟨sb, 0, none⟩)), (3, .pointer (some ⟨wb, 0, none⟩)), (4, .pointer (some ⟨yb, 0, none⟩)), (5, .pointer (some ⟨gb, 0, none⟩))]) (hpM := .blk b6 (.cells [.int .i64 (k : Int), .int .i64 0, .int .i64 0].toArray 86 (0, 0)) :: .blk gb (.cells [.func (.func 70) ([] : List Value).toArray [.pointer (some ⟨sb, 0, none⟩), .pointer (some ⟨wb, 0, none⟩), .pointer (some ⟨yb, 0, none⟩), .pointer (some ⟨gb, 0, none⟩)].toArray].toArray 166 (0, 0)) :: .blk yb (.cells [.func (.yield r) #[] #[]].toArray 164 (0, 0)) :: .blk r (.loop rec) :: .blk sb (.cells [.slice (some ⟨Lb, 0, none⟩) 1 1, .slice (some ⟨Sb, 0, none⟩) 1 1, .int .i64 1, .slice (some ⟨Wb, 0, none⟩) 1 1].toArray 78 (0, 0)) :: .blk wb (.cells [.int .u8 1].toArray 82 (0, 0)) :: T) ?_ (fun hmid => ?_)
  rotate_left
  · skip
    refine anyW_ops (rs := [0, 1, 2, 3]) (by kernel_rfl) (by simp) (fun i hi => ?_)
    simp only [List.mem_cons, List.not_mem_nil, or_false] at hi
    rcases hi with rfl | rfl | rfl | rfl
    · skip
      refine ⟨_, rfl, ?_⟩
      refine lstW_yld rfl rfl (yld_loadN rfl F.agg78 F.ti78) ?_
      refine lstW_nil ?_
      refine exW_next (listed' := [true, false, false, false, false, false, false, false, false, false, false, false, false].toArray) rfl ?_
      refine anyW_ops (rs := [1, 2, 3]) (by kernel_rfl) (by simp) (fun i hi => ?_)
      simp only [List.mem_cons, List.not_mem_nil, or_false] at hi
      rcases hi with rfl | rfl | rfl
      · skip
        refine ⟨_, rfl, ?_⟩
        refine lstW_yld rfl rfl (yld_loadN rfl F.agg78 F.ti78) ?_
        refine lstW_nil ?_
        refine exW_next (listed' := [true, true, false, false, false, false, false, false, false, false, false, false, false].toArray) rfl ?_
        refine anyW_ops (rs := [2, 3]) (by kernel_rfl) (by simp) (fun i hi => ?_)
        simp only [List.mem_cons, List.not_mem_nil, or_false] at hi
        rcases hi with rfl | rfl
        · skip
          refine ⟨_, rfl, ?_⟩
          refine lstW_yld rfl rfl (yld_load rfl F.one82) ?_
          refine lstW_nil ?_
          refine exW_next (listed' := [true, true, true, false, false, false, false, false, false, false, false, false, false].toArray) rfl ?_
          refine anyW_ops (rs := [3]) (by kernel_rfl) (by simp) (fun i hi => ?_)
          obtain rfl := List.mem_singleton.1 hi
          refine ⟨_, rfl, ?_⟩
          refine lstW_yld rfl rfl (yld_loadN rfl F.agg86 F.ti86) ?_
          refine lstW_nil ?_
          refine exW_next (listed' := [true, true, true, true, false, false, false, false, false, false, false, false, false].toArray) rfl ?_
          refine anyW_ops (rs := [4]) (by kernel_rfl) (by simp) (fun i hi => ?_)
          obtain rfl := List.mem_singleton.1 hi
          refine ⟨_, rfl, ?_⟩
          refine lstW_of only_out ?_
          refine lst_fn0 (vs := [_, _, _]) rfl rfl F.ent45 (fun a w ha => splan_c l lA lc Lb Sb Wb st p k (by have := hM.st4; omega) hks w (hM.later (by rw [hB]; exact ha.below))) ?_
          refine lst_nil ?_
          refine exW_next (listed' := [true, true, true, true, true, false, false, false, false, false, false, false, false].toArray) rfl ?_
          exact hmid _ _ (by repeat (first | exact Sub.nil _ | refine Sub.cons rfl ?_)) (by repeat (first | exact List.Sublist.refl _ | exact List.nil_sublist _ | refine List.Sublist.cons_cons _ ?_ | refine List.Sublist.cons _ ?_))
        · skip
          refine ⟨_, rfl, ?_⟩
          refine lstW_yld rfl rfl (yld_loadN rfl F.agg86 F.ti86) ?_
          refine lstW_nil ?_
          refine exW_next (listed' := [true, true, false, true, false, false, false, false, false, false, false, false, false].toArray) rfl ?_
          refine anyW_ops (rs := [2]) (by kernel_rfl) (by simp) (fun i hi => ?_)
          obtain rfl := List.mem_singleton.1 hi
          refine ⟨_, rfl, ?_⟩
          refine lstW_yld rfl rfl (yld_load rfl F.one82) ?_
          refine lstW_nil ?_
          refine exW_next (listed' := [true, true, true, true, false, false, false, false, false, false, false, false, false].toArray) rfl ?_
          refine anyW_ops (rs := [4]) (by kernel_rfl) (by simp) (fun i hi => ?_)
          obtain rfl := List.mem_singleton.1 hi
          refine ⟨_, rfl, ?_⟩
          refine lstW_of only_out ?_
          refine lst_fn0 (vs := [_, _, _]) rfl rfl F.ent45 (fun a w ha => splan_c l lA lc Lb Sb Wb st p k (by have := hM.st4; omega) hks w (hM.later (by rw [hB]; exact ha.below))) ?_
          refine lst_nil ?_
          refine exW_next (listed' := [true, true, true, true, true, false, false, false, false, false, false, false, false].toArray) rfl ?_
          exact hmid _ _ (by repeat (first | exact Sub.nil _ | refine Sub.cons rfl ?_)) (by repeat (first | exact List.Sublist.refl _ | exact List.nil_sublist _ | refine List.Sublist.cons_cons _ ?_ | refine List.Sublist.cons _ ?_))
      · skip
        refine ⟨_, rfl, ?_⟩
        refine lstW_yld rfl rfl (yld_load rfl F.one82) ?_
        refine lstW_nil ?_
        refine exW_next (listed' := [true, false, true, false, false, false, false, false, false, false, false, false, false].toArray) rfl ?_
        refine anyW_ops (rs := [1, 3]) (by kernel_rfl) (by simp) (fun i hi => ?_)
        simp only [List.mem_cons, List.not_mem_nil, or_false] at hi
        rcases hi with rfl | rfl
        · skip
          refine ⟨_, rfl, ?_⟩
          refine lstW_yld rfl rfl (yld_loadN rfl F.agg78 F.ti78) ?_
          refine lstW_nil ?_
          refine exW_next (listed' := [true, true, true, false, false, false, false, false, false, false, false, false, false].toArray) rfl ?_
          refine anyW_ops (rs := [3]) (by kernel_rfl) (by simp) (fun i hi => ?_)
          obtain rfl := List.mem_singleton.1 hi
          refine ⟨_, rfl, ?_⟩
          refine lstW_yld rfl rfl (yld_loadN rfl F.agg86 F.ti86) ?_
          refine lstW_nil ?_
          refine exW_next (listed' := [true, true, true, true, false, false, false, false, false, false, false, false, false].toArray) rfl ?_
          refine anyW_ops (rs := [4]) (by kernel_rfl) (by simp) (fun i hi => ?_)
          obtain rfl := List.mem_singleton.1 hi
          refine ⟨_, rfl, ?_⟩
          refine lstW_of only_out ?_
          refine lst_fn0 (vs := [_, _, _]) rfl rfl F.ent45 (fun a w ha => splan_c l lA lc Lb Sb Wb st p k (by have := hM.st4; omega) hks w (hM.later (by rw [hB]; exact ha.below))) ?_
          refine lst_nil ?_
          refine exW_next (listed' := [true, true, true, true, true, false, false, false, false, false, false, false, false].toArray) rfl ?_
          exact hmid _ _ (by repeat (first | exact Sub.nil _ | refine Sub.cons rfl ?_)) (by repeat (first | exact List.Sublist.refl _ | exact List.nil_sublist _ | refine List.Sublist.cons_cons _ ?_ | refine List.Sublist.cons _ ?_))
        · skip
          refine ⟨_, rfl, ?_⟩
          refine lstW_yld rfl rfl (yld_loadN rfl F.agg86 F.ti86) ?_
          refine lstW_nil ?_
          refine exW_next (listed' := [true, false, true, true, false, false, false, false, false, false, false, false, false].toArray) rfl ?_
          refine anyW_ops (rs := [1]) (by kernel_rfl) (by simp) (fun i hi => ?_)
          obtain rfl := List.mem_singleton.1 hi
          refine ⟨_, rfl, ?_⟩
          refine lstW_yld rfl rfl (yld_loadN rfl F.agg78 F.ti78) ?_
          refine lstW_nil ?_
          refine exW_next (listed' := [true, true, true, true, false, false, false, false, false, false, false, false, false].toArray) rfl ?_
          refine anyW_ops (rs := [4]) (by kernel_rfl) (by simp) (fun i hi => ?_)
          obtain rfl := List.mem_singleton.1 hi
          refine ⟨_, rfl, ?_⟩
          refine lstW_of only_out ?_
          refine lst_fn0 (vs := [_, _, _]) rfl rfl F.ent45 (fun a w ha => splan_c l lA lc Lb Sb Wb st p k (by have := hM.st4; omega) hks w (hM.later (by rw [hB]; exact ha.below))) ?_
          refine lst_nil ?_
          refine exW_next (listed' := [true, true, true, true, true, false, false, false, false, false, false, false, false].toArray) rfl ?_
          exact hmid _ _ (by repeat (first | exact Sub.nil _ | refine Sub.cons rfl ?_)) (by repeat (first | exact List.Sublist.refl _ | exact List.nil_sublist _ | refine List.Sublist.cons_cons _ ?_ | refine List.Sublist.cons _ ?_))
      · skip
        refine ⟨_, rfl, ?_⟩
        refine lstW_yld rfl rfl (yld_loadN rfl F.agg86 F.ti86) ?_
        refine lstW_nil ?_
        refine exW_next (listed' := [true, false, false, true, false, false, false, false, false, false, false, false, false].toArray) rfl ?_
        refine anyW_ops (rs := [1, 2]) (by kernel_rfl) (by simp) (fun i hi => ?_)
        simp only [List.mem_cons, List.not_mem_nil, or_false] at hi
        rcases hi with rfl | rfl
        · skip
          refine ⟨_, rfl, ?_⟩
          refine lstW_yld rfl rfl (yld_loadN rfl F.agg78 F.ti78) ?_
          refine lstW_nil ?_
          refine exW_next (listed' := [true, true, false, true, false, false, false, false, false, false, false, false, false].toArray) rfl ?_
          refine anyW_ops (rs := [2]) (by kernel_rfl) (by simp) (fun i hi => ?_)
          obtain rfl := List.mem_singleton.1 hi
          refine ⟨_, rfl, ?_⟩
          refine lstW_yld rfl rfl (yld_load rfl F.one82) ?_
          refine lstW_nil ?_
          refine exW_next (listed' := [true, true, true, true, false, false, false, false, false, false, false, false, false].toArray) rfl ?_
          refine anyW_ops (rs := [4]) (by kernel_rfl) (by simp) (fun i hi => ?_)
          obtain rfl := List.mem_singleton.1 hi
          refine ⟨_, rfl, ?_⟩
          refine lstW_of only_out ?_
          refine lst_fn0 (vs := [_, _, _]) rfl rfl F.ent45 (fun a w ha => splan_c l lA lc Lb Sb Wb st p k (by have := hM.st4; omega) hks w (hM.later (by rw [hB]; exact ha.below))) ?_
          refine lst_nil ?_
          refine exW_next (listed' := [true, true, true, true, true, false, false, false, false, false, false, false, false].toArray) rfl ?_
          exact hmid _ _ (by repeat (first | exact Sub.nil _ | refine Sub.cons rfl ?_)) (by repeat (first | exact List.Sublist.refl _ | exact List.nil_sublist _ | refine List.Sublist.cons_cons _ ?_ | refine List.Sublist.cons _ ?_))
        · skip
          refine ⟨_, rfl, ?_⟩
          refine lstW_yld rfl rfl (yld_load rfl F.one82) ?_
          refine lstW_nil ?_
          refine exW_next (listed' := [true, false, true, true, false, false, false, false, false, false, false, false, false].toArray) rfl ?_
          refine anyW_ops (rs := [1]) (by kernel_rfl) (by simp) (fun i hi => ?_)
          obtain rfl := List.mem_singleton.1 hi
          refine ⟨_, rfl, ?_⟩
          refine lstW_yld rfl rfl (yld_loadN rfl F.agg78 F.ti78) ?_
          refine lstW_nil ?_
          refine exW_next (listed' := [true, true, true, true, false, false, false, false, false, false, false, false, false].toArray) rfl ?_
          refine anyW_ops (rs := [4]) (by kernel_rfl) (by simp) (fun i hi => ?_)
          obtain rfl := List.mem_singleton.1 hi
          refine ⟨_, rfl, ?_⟩
          refine lstW_of only_out ?_
          refine lst_fn0 (vs := [_, _, _]) rfl rfl F.ent45 (fun a w ha => splan_c l lA lc Lb Sb Wb st p k (by have := hM.st4; omega) hks w (hM.later (by rw [hB]; exact ha.below))) ?_
          refine lst_nil ?_
          refine exW_next (listed' := [true, true, true, true, true, false, false, false, false, false, false, false, false].toArray) rfl ?_
          exact hmid _ _ (by repeat (first | exact Sub.nil _ | refine Sub.cons rfl ?_)) (by repeat (first | exact List.Sublist.refl _ | exact List.nil_sublist _ | refine List.Sublist.cons_cons _ ?_ | refine List.Sublist.cons _ ?_))
    · skip
      refine ⟨_, rfl, ?_⟩
      refine lstW_yld rfl rfl (yld_loadN rfl F.agg78 F.ti78) ?_
      refine lstW_nil ?_
      refine exW_next (listed' := [false, true, false, false, false, false, false, false, false, false, false, false, false].toArray) rfl ?_
      refine anyW_ops (rs := [0, 2, 3]) (by kernel_rfl) (by simp) (fun i hi => ?_)
      simp only [List.mem_cons, List.not_mem_nil, or_false] at hi
      rcases hi with rfl | rfl | rfl
      · skip
        refine ⟨_, rfl, ?_⟩
        refine lstW_yld rfl rfl (yld_loadN rfl F.agg78 F.ti78) ?_
        refine lstW_nil ?_
        refine exW_next (listed' := [true, true, false, false, false, false, false, false, false, false, false, false, false].toArray) rfl ?_
        refine anyW_ops (rs := [2, 3]) (by kernel_rfl) (by simp) (fun i hi => ?_)
        simp only [List.mem_cons, List.not_mem_nil, or_false] at hi
        rcases hi with rfl | rfl
        · skip
          refine ⟨_, rfl, ?_⟩
          refine lstW_yld rfl rfl (yld_load rfl F.one82) ?_
          refine lstW_nil ?_
          refine exW_next (listed' := [true, true, true, false, false, false, false, false, false, false, false, false, false].toArray) rfl ?_
          refine anyW_ops (rs := [3]) (by kernel_rfl) (by simp) (fun i hi => ?_)
          obtain rfl := List.mem_singleton.1 hi
          refine ⟨_, rfl, ?_⟩
          refine lstW_yld rfl rfl (yld_loadN rfl F.agg86 F.ti86) ?_
          refine lstW_nil ?_
          refine exW_next (listed' := [true, true, true, true, false, false, false, false, false, false, false, false, false].toArray) rfl ?_
          refine anyW_ops (rs := [4]) (by kernel_rfl) (by simp) (fun i hi => ?_)
          obtain rfl := List.mem_singleton.1 hi
          refine ⟨_, rfl, ?_⟩
          refine lstW_of only_out ?_
          refine lst_fn0 (vs := [_, _, _]) rfl rfl F.ent45 (fun a w ha => splan_c l lA lc Lb Sb Wb st p k (by have := hM.st4; omega) hks w (hM.later (by rw [hB]; exact ha.below))) ?_
          refine lst_nil ?_
          refine exW_next (listed' := [true, true, true, true, true, false, false, false, false, false, false, false, false].toArray) rfl ?_
          exact hmid _ _ (by repeat (first | exact Sub.nil _ | refine Sub.cons rfl ?_)) (by repeat (first | exact List.Sublist.refl _ | exact List.nil_sublist _ | refine List.Sublist.cons_cons _ ?_ | refine List.Sublist.cons _ ?_))
        · skip
          refine ⟨_, rfl, ?_⟩
          refine lstW_yld rfl rfl (yld_loadN rfl F.agg86 F.ti86) ?_
          refine lstW_nil ?_
          refine exW_next (listed' := [true, true, false, true, false, false, false, false, false, false, false, false, false].toArray) rfl ?_
          refine anyW_ops (rs := [2]) (by kernel_rfl) (by simp) (fun i hi => ?_)
          obtain rfl := List.mem_singleton.1 hi
          refine ⟨_, rfl, ?_⟩
          refine lstW_yld rfl rfl (yld_load rfl F.one82) ?_
          refine lstW_nil ?_
          refine exW_next (listed' := [true, true, true, true, false, false, false, false, false, false, false, false, false].toArray) rfl ?_
          refine anyW_ops (rs := [4]) (by kernel_rfl) (by simp) (fun i hi => ?_)
          obtain rfl := List.mem_singleton.1 hi
          refine ⟨_, rfl, ?_⟩
          refine lstW_of only_out ?_
          refine lst_fn0 (vs := [_, _, _]) rfl rfl F.ent45 (fun a w ha => splan_c l lA lc Lb Sb Wb st p k (by have := hM.st4; omega) hks w (hM.later (by rw [hB]; exact ha.below))) ?_
          refine lst_nil ?_
          refine exW_next (listed' := [true, true, true, true, true, false, false, false, false, false, false, false, false].toArray) rfl ?_
          exact hmid _ _ (by repeat (first | exact Sub.nil _ | refine Sub.cons rfl ?_)) (by repeat (first | exact List.Sublist.refl _ | exact List.nil_sublist _ | refine List.Sublist.cons_cons _ ?_ | refine List.Sublist.cons _ ?_))
      · skip
        refine ⟨_, rfl, ?_⟩
        refine lstW_yld rfl rfl (yld_load rfl F.one82) ?_
        refine lstW_nil ?_
        refine exW_next (listed' := [false, true, true, false, false, false, false, false, false, false, false, false, false].toArray) rfl ?_
        refine anyW_ops (rs := [0, 3]) (by kernel_rfl) (by simp) (fun i hi => ?_)
        simp only [List.mem_cons, List.not_mem_nil, or_false] at hi
        rcases hi with rfl | rfl
        · skip
          refine ⟨_, rfl, ?_⟩
          refine lstW_yld rfl rfl (yld_loadN rfl F.agg78 F.ti78) ?_
          refine lstW_nil ?_
          refine exW_next (listed' := [true, true, true, false, false, false, false, false, false, false, false, false, false].toArray) rfl ?_
          refine anyW_ops (rs := [3]) (by kernel_rfl) (by simp) (fun i hi => ?_)
          obtain rfl := List.mem_singleton.1 hi
          refine ⟨_, rfl, ?_⟩
          refine lstW_yld rfl rfl (yld_loadN rfl F.agg86 F.ti86) ?_
          refine lstW_nil ?_
          refine exW_next (listed' := [true, true, true, true, false, false, false, false, false, false, false, false, false].toArray) rfl ?_
          refine anyW_ops (rs := [4]) (by kernel_rfl) (by simp) (fun i hi => ?_)
          obtain rfl := List.mem_singleton.1 hi
          refine ⟨_, rfl, ?_⟩
          refine lstW_of only_out ?_
          refine lst_fn0 (vs := [_, _, _]) rfl rfl F.ent45 (fun a w ha => splan_c l lA lc Lb Sb Wb st p k (by have := hM.st4; omega) hks w (hM.later (by rw [hB]; exact ha.below))) ?_
          refine lst_nil ?_
          refine exW_next (listed' := [true, true, true, true, true, false, false, false, false, false, false, false, false].toArray) rfl ?_
          exact hmid _ _ (by repeat (first | exact Sub.nil _ | refine Sub.cons rfl ?_)) (by repeat (first | exact List.Sublist.refl _ | exact List.nil_sublist _ | refine List.Sublist.cons_cons _ ?_ | refine List.Sublist.cons _ ?_))
        · skip
          refine ⟨_, rfl, ?_⟩
          refine lstW_yld rfl rfl (yld_loadN rfl F.agg86 F.ti86) ?_
          refine lstW_nil ?_
          refine exW_next (listed' := [false, true, true, true, false, false, false, false, false, false, false, false, false].toArray) rfl ?_
          refine anyW_ops (rs := [0, 4]) (by kernel_rfl) (by simp) (fun i hi => ?_)
          simp only [List.mem_cons, List.not_mem_nil, or_false] at hi
          rcases hi with rfl | rfl
          · skip
            refine ⟨_, rfl, ?_⟩
            refine lstW_yld rfl rfl (yld_loadN rfl F.agg78 F.ti78) ?_
            refine lstW_nil ?_
            refine exW_next (listed' := [true, true, true, true, false, false, false, false, false, false, false, false, false].toArray) rfl ?_
            refine anyW_ops (rs := [4]) (by kernel_rfl) (by simp) (fun i hi => ?_)
            obtain rfl := List.mem_singleton.1 hi
            refine ⟨_, rfl, ?_⟩
            refine lstW_of only_out ?_
            refine lst_fn0 (vs := [_, _, _]) rfl rfl F.ent45 (fun a w ha => splan_c l lA lc Lb Sb Wb st p k (by have := hM.st4; omega) hks w (hM.later (by rw [hB]; exact ha.below))) ?_
            refine lst_nil ?_
            refine exW_next (listed' := [true, true, true, true, true, false, false, false, false, false, false, false, false].toArray) rfl ?_
            exact hmid _ _ (by repeat (first | exact Sub.nil _ | refine Sub.cons rfl ?_)) (by repeat (first | exact List.Sublist.refl _ | exact List.nil_sublist _ | refine List.Sublist.cons_cons _ ?_ | refine List.Sublist.cons _ ?_))
          · skip
            refine ⟨_, rfl, ?_⟩
            refine lstW_of only_out ?_
            refine lst_fn0 (vs := [_, _, _]) rfl rfl F.ent45 (fun a w ha => splan_c l lA lc Lb Sb Wb st p k (by have := hM.st4; omega) hks w (hM.later (by rw [hB]; exact ha.below))) ?_
            refine lst_nil ?_
            refine exW_next (listed' := [false, true, true, true, true, false, false, false, false, false, false, false, false].toArray) rfl ?_
            refine anyW_ops (rs := [0]) (by kernel_rfl) (by simp) (fun i hi => ?_)
            obtain rfl := List.mem_singleton.1 hi
            refine ⟨_, rfl, ?_⟩
            refine lstW_yld rfl rfl (yld_loadN rfl F.agg78 F.ti78) ?_
            refine lstW_nil ?_
            refine exW_next (listed' := [true, true, true, true, true, false, false, false, false, false, false, false, false].toArray) rfl ?_
            exact hmid _ _ (by repeat (first | exact Sub.nil _ | refine Sub.cons rfl ?_)) (by repeat (first | exact List.Sublist.refl _ | exact List.nil_sublist _ | refine List.Sublist.cons_cons _ ?_ | refine List.Sublist.cons _ ?_))
      · skip
        refine ⟨_, rfl, ?_⟩
        refine lstW_yld rfl rfl (yld_loadN rfl F.agg86 F.ti86) ?_
        refine lstW_nil ?_
        refine exW_next (listed' := [false, true, false, true, false, false, false, false, false, false, false, false, false].toArray) rfl ?_
        refine anyW_ops (rs := [0, 2]) (by kernel_rfl) (by simp) (fun i hi => ?_)
        simp only [List.mem_cons, List.not_mem_nil, or_false] at hi
        rcases hi with rfl | rfl
        · skip
          refine ⟨_, rfl, ?_⟩
          refine lstW_yld rfl rfl (yld_loadN rfl F.agg78 F.ti78) ?_
          refine lstW_nil ?_
          refine exW_next (listed' := [true, true, false, true, false, false, false, false, false, false, false, false, false].toArray) rfl ?_
          refine anyW_ops (rs := [2]) (by kernel_rfl) (by simp) (fun i hi => ?_)
          obtain rfl := List.mem_singleton.1 hi
          refine ⟨_, rfl, ?_⟩
          refine lstW_yld rfl rfl (yld_load rfl F.one82) ?_
          refine lstW_nil ?_
          refine exW_next (listed' := [true, true, true, true, false, false, false, false, false, false, false, false, false].toArray) rfl ?_
          refine anyW_ops (rs := [4]) (by kernel_rfl) (by simp) (fun i hi => ?_)
          obtain rfl := List.mem_singleton.1 hi
          refine ⟨_, rfl, ?_⟩
          refine lstW_of only_out ?_
          refine lst_fn0 (vs := [_, _, _]) rfl rfl F.ent45 (fun a w ha => splan_c l lA lc Lb Sb Wb st p k (by have := hM.st4; omega) hks w (hM.later (by rw [hB]; exact ha.below))) ?_
          refine lst_nil ?_
          refine exW_next (listed' := [true, true, true, true, true, false, false, false, false, false, false, false, false].toArray) rfl ?_
          exact hmid _ _ (by repeat (first | exact Sub.nil _ | refine Sub.cons rfl ?_)) (by repeat (first | exact List.Sublist.refl _ | exact List.nil_sublist _ | refine List.Sublist.cons_cons _ ?_ | refine List.Sublist.cons _ ?_))
        · skip
          refine ⟨_, rfl, ?_⟩
          refine lstW_yld rfl rfl (yld_load rfl F.one82) ?_
          refine lstW_nil ?_
          refine exW_next (listed' := [false, true, true, true, false, false, false, false, false, false, false, false, false].toArray) rfl ?_
          refine anyW_ops (rs := [0, 4]) (by kernel_rfl) (by simp) (fun i hi => ?_)
          simp only [List.mem_cons, List.not_mem_nil, or_false] at hi
          rcases hi with rfl | rfl
          · skip
            refine ⟨_, rfl, ?_⟩
            refine lstW_yld rfl rfl (yld_loadN rfl F.agg78 F.ti78) ?_
            refine lstW_nil ?_
            refine exW_next (listed' := [true, true, true, true, false, false, false, false, false, false, false, false, false].toArray) rfl ?_
            refine anyW_ops (rs := [4]) (by kernel_rfl) (by simp) (fun i hi => ?_)
            obtain rfl := List.mem_singleton.1 hi
            refine ⟨_, rfl, ?_⟩
            refine lstW_of only_out ?_
            refine lst_fn0 (vs := [_, _, _]) rfl rfl F.ent45 (fun a w ha => splan_c l lA lc Lb Sb Wb st p k (by have := hM.st4; omega) hks w (hM.later (by rw [hB]; exact ha.below))) ?_
            refine lst_nil ?_
            refine exW_next (listed' := [true, true, true, true, true, false, false, false, false, false, false, false, false].toArray) rfl ?_
            exact hmid _ _ (by repeat (first | exact Sub.nil _ | refine Sub.cons rfl ?_)) (by repeat (first | exact List.Sublist.refl _ | exact List.nil_sublist _ | refine List.Sublist.cons_cons _ ?_ | refine List.Sublist.cons _ ?_))
          · skip
            refine ⟨_, rfl, ?_⟩
            refine lstW_of only_out ?_
            refine lst_fn0 (vs := [_, _, _]) rfl rfl F.ent45 (fun a w ha => splan_c l lA lc Lb Sb Wb st p k (by have := hM.st4; omega) hks w (hM.later (by rw [hB]; exact ha.below))) ?_
            refine lst_nil ?_
            refine exW_next (listed' := [false, true, true, true, true, false, false, false, false, false, false, false, false].toArray) rfl ?_
            refine anyW_ops (rs := [0]) (by kernel_rfl) (by simp) (fun i hi => ?_)
            obtain rfl := List.mem_singleton.1 hi
            refine ⟨_, rfl, ?_⟩
            refine lstW_yld rfl rfl (yld_loadN rfl F.agg78 F.ti78) ?_
            refine lstW_nil ?_
            refine exW_next (listed' := [true, true, true, true, true, false, false, false, false, false, false, false, false].toArray) rfl ?_
            exact hmid _ _ (by repeat (first | exact Sub.nil _ | refine Sub.cons rfl ?_)) (by repeat (first | exact List.Sublist.refl _ | exact List.nil_sublist _ | refine List.Sublist.cons_cons _ ?_ | refine List.Sublist.cons _ ?_))
    · skip
      refine ⟨_, rfl, ?_⟩
      refine lstW_yld rfl rfl (yld_load rfl F.one82) ?_
      refine lstW_nil ?_
      refine exW_next (listed' := [false, false, true, false, false, false, false, false, false, false, false, false, false].toArray) rfl ?_
      refine anyW_ops (rs := [0, 1, 3]) (by kernel_rfl) (by simp) (fun i hi => ?_)
      simp only [List.mem_cons, List.not_mem_nil, or_false] at hi
      rcases hi with rfl | rfl | rfl
      · skip
        refine ⟨_, rfl, ?_⟩
        refine lstW_yld rfl rfl (yld_loadN rfl F.agg78 F.ti78) ?_
        refine lstW_nil ?_
        refine exW_next (listed' := [true, false, true, false, false, false, false, false, false, false, false, false, false].toArray) rfl ?_
        refine anyW_ops (rs := [1, 3]) (by kernel_rfl) (by simp) (fun i hi => ?_)
        simp only [List.mem_cons, List.not_mem_nil, or_false] at hi
        rcases hi with rfl | rfl
        · skip
          refine ⟨_, rfl, ?_⟩
          refine lstW_yld rfl rfl (yld_loadN rfl F.agg78 F.ti78) ?_
          refine lstW_nil ?_
          refine exW_next (listed' := [true, true, true, false, false, false, false, false, false, false, false, false, false].toArray) rfl ?_
          refine anyW_ops (rs := [3]) (by kernel_rfl) (by simp) (fun i hi => ?_)
          obtain rfl := List.mem_singleton.1 hi
          refine ⟨_, rfl, ?_⟩
          refine lstW_yld rfl rfl (yld_loadN rfl F.agg86 F.ti86) ?_
          refine lstW_nil ?_
          refine exW_next (listed' := [true, true, true, true, false, false, false, false, false, false, false, false, false].toArray) rfl ?_
          refine anyW_ops (rs := [4]) (by kernel_rfl) (by simp) (fun i hi => ?_)
          obtain rfl := List.mem_singleton.1 hi
          refine ⟨_, rfl, ?_⟩
          refine lstW_of only_out ?_
          refine lst_fn0 (vs := [_, _, _]) rfl rfl F.ent45 (fun a w ha => splan_c l lA lc Lb Sb Wb st p k (by have := hM.st4; omega) hks w (hM.later (by rw [hB]; exact ha.below))) ?_
          refine lst_nil ?_
          refine exW_next (listed' := [true, true, true, true, true, false, false, false, false, false, false, false, false].toArray) rfl ?_
          exact hmid _ _ (by repeat (first | exact Sub.nil _ | refine Sub.cons rfl ?_)) (by repeat (first | exact List.Sublist.refl _ | exact List.nil_sublist _ | refine List.Sublist.cons_cons _ ?_ | refine List.Sublist.cons _ ?_))
        · skip
          refine ⟨_, rfl, ?_⟩
          refine lstW_yld rfl rfl (yld_loadN rfl F.agg86 F.ti86) ?_
          refine lstW_nil ?_
          refine exW_next (listed' := [true, false, true, true, false, false, false, false, false, false, false, false, false].toArray) rfl ?_
          refine anyW_ops (rs := [1]) (by kernel_rfl) (by simp) (fun i hi => ?_)
          obtain rfl := List.mem_singleton.1 hi
          refine ⟨_, rfl, ?_⟩
          refine lstW_yld rfl rfl (yld_loadN rfl F.agg78 F.ti78) ?_
          refine lstW_nil ?_
          refine exW_next (listed' := [true, true, true, true, false, false, false, false, false, false, false, false, false].toArray) rfl ?_
          refine anyW_ops (rs := [4]) (by kernel_rfl) (by simp) (fun i hi => ?_)
          obtain rfl := List.mem_singleton.1 hi
          refine ⟨_, rfl, ?_⟩
          refine lstW_of only_out ?_
          refine lst_fn0 (vs := [_, _, _]) rfl rfl F.ent45 (fun a w ha => splan_c l lA lc Lb Sb Wb st p k (by have := hM.st4; omega) hks w (hM.later (by rw [hB]; exact ha.below))) ?_
          refine lst_nil ?_
          refine exW_next (listed' := [true, true, true, true, true, false, false, false, false, false, false, false, false].toArray) rfl ?_
          exact hmid _ _ (by repeat (first | exact Sub.nil _ | refine Sub.cons rfl ?_)) (by repeat (first | exact List.Sublist.refl _ | exact List.nil_sublist _ | refine List.Sublist.cons_cons _ ?_ | refine List.Sublist.cons _ ?_))
      · skip
        refine ⟨_, rfl, ?_⟩
        refine lstW_yld rfl rfl (yld_loadN rfl F.agg78 F.ti78) ?_
        refine lstW_nil ?_
        refine exW_next (listed' := [false, true, true, false, false, false, false, false, false, false, false, false, false].toArray) rfl ?_
        refine anyW_ops (rs := [0, 3]) (by kernel_rfl) (by simp) (fun i hi => ?_)
        simp only [List.mem_cons, List.not_mem_nil, or_false] at hi
        rcases hi with rfl | rfl
        · skip
          refine ⟨_, rfl, ?_⟩
          refine lstW_yld rfl rfl (yld_loadN rfl F.agg78 F.ti78) ?_
          refine lstW_nil ?_
          refine exW_next (listed' := [true, true, true, false, false, false, false, false, false, false, false, false, false].toArray) rfl ?_
          refine anyW_ops (rs := [3]) (by kernel_rfl) (by simp) (fun i hi => ?_)
          obtain rfl := List.mem_singleton.1 hi
          refine ⟨_, rfl, ?_⟩
          refine lstW_yld rfl rfl (yld_loadN rfl F.agg86 F.ti86) ?_
          refine lstW_nil ?_
          refine exW_next (listed' := [true, true, true, true, false, false, false, false, false, false, false, false, false].toArray) rfl ?_
          refine anyW_ops (rs := [4]) (by kernel_rfl) (by simp) (fun i hi => ?_)
          obtain rfl := List.mem_singleton.1 hi
          refine ⟨_, rfl, ?_⟩
          refine lstW_of only_out ?_
          refine lst_fn0 (vs := [_, _, _]) rfl rfl F.ent45 (fun a w ha => splan_c l lA lc Lb Sb Wb st p k (by have := hM.st4; omega) hks w (hM.later (by rw [hB]; exact ha.below))) ?_
          refine lst_nil ?_
          refine exW_next (listed' := [true, true, true, true, true, false, false, false, false, false, false, false, false].toArray) rfl ?_
          exact hmid _ _ (by repeat (first | exact Sub.nil _ | refine Sub.cons rfl ?_)) (by repeat (first | exact List.Sublist.refl _ | exact List.nil_sublist _ | refine List.Sublist.cons_cons _ ?_ | refine List.Sublist.cons _ ?_))
        · skip
          refine ⟨_, rfl, ?_⟩
          refine lstW_yld rfl rfl (yld_loadN rfl F.agg86 F.ti86) ?_
          refine lstW_nil ?_
          refine exW_next (listed' := [false, true, true, true, false, false, false, false, false, false, false, false, false].toArray) rfl ?_
          refine anyW_ops (rs := [0, 4]) (by kernel_rfl) (by simp) (fun i hi => ?_)
          simp only [List.mem_cons, List.not_mem_nil, or_false] at hi
          rcases hi with rfl | rfl
          · skip
            refine ⟨_, rfl, ?_⟩
            refine lstW_yld rfl rfl (yld_loadN rfl F.agg78 F.ti78) ?_
            refine lstW_nil ?_
            refine exW_next (listed' := [true, true, true, true, false, false, false, false, false, false, false, false, false].toArray) rfl ?_
            refine anyW_ops (rs := [4]) (by kernel_rfl) (by simp) (fun i hi => ?_)
            obtain rfl := List.mem_singleton.1 hi
            refine ⟨_, rfl, ?_⟩
            refine lstW_of only_out ?_
            refine lst_fn0 (vs := [_, _, _]) rfl rfl F.ent45 (fun a w ha => splan_c l lA lc Lb Sb Wb st p k (by have := hM.st4; omega) hks w (hM.later (by rw [hB]; exact ha.below))) ?_
            refine lst_nil ?_
            refine exW_next (listed' := [true, true, true, true, true, false, false, false, false, false, false, false, false].toArray) rfl ?_
            exact hmid _ _ (by repeat (first | exact Sub.nil _ | refine Sub.cons rfl ?_)) (by repeat (first | exact List.Sublist.refl _ | exact List.nil_sublist _ | refine List.Sublist.cons_cons _ ?_ | refine List.Sublist.cons _ ?_))
          · skip
            refine ⟨_, rfl, ?_⟩
            refine lstW_of only_out ?_
            refine lst_fn0 (vs := [_, _, _]) rfl rfl F.ent45 (fun a w ha => splan_c l lA lc Lb Sb Wb st p k (by have := hM.st4; omega) hks w (hM.later (by rw [hB]; exact ha.below))) ?_
            refine lst_nil ?_
            refine exW_next (listed' := [false, true, true, true, true, false, false, false, false, false, false, false, false].toArray) rfl ?_
            refine anyW_ops (rs := [0]) (by kernel_rfl) (by simp) (fun i hi => ?_)
            obtain rfl := List.mem_singleton.1 hi
            refine ⟨_, rfl, ?_⟩
            refine lstW_yld rfl rfl (yld_loadN rfl F.agg78 F.ti78) ?_
            refine lstW_nil ?_
            refine exW_next (listed' := [true, true, true, true, true, false, false, false, false, false, false, false, false].toArray) rfl ?_
            exact hmid _ _ (by repeat (first | exact Sub.nil _ | refine Sub.cons rfl ?_)) (by repeat (first | exact List.Sublist.refl _ | exact List.nil_sublist _ | refine List.Sublist.cons_cons _ ?_ | refine List.Sublist.cons _ ?_))
      · skip
        refine ⟨_, rfl, ?_⟩
        refine lstW_yld rfl rfl (yld_loadN rfl F.agg86 F.ti86) ?_
        refine lstW_nil ?_
        refine exW_next (listed' := [false, false, true, true, false, false, false, false, false, false, false, false, false].toArray) rfl ?_
        refine anyW_ops (rs := [0, 1]) (by kernel_rfl) (by simp) (fun i hi => ?_)
        simp only [List.mem_cons, List.not_mem_nil, or_false] at hi
        rcases hi with rfl | rfl
        · skip
          refine ⟨_, rfl, ?_⟩
          refine lstW_yld rfl rfl (yld_loadN rfl F.agg78 F.ti78) ?_
          refine lstW_nil ?_
          refine exW_next (listed' := [true, false, true, true, false, false, false, false, false, false, false, false, false].toArray) rfl ?_
          refine anyW_ops (rs := [1]) (by kernel_rfl) (by simp) (fun i hi => ?_)
          obtain rfl := List.mem_singleton.1 hi
          refine ⟨_, rfl, ?_⟩
          refine lstW_yld rfl rfl (yld_loadN rfl F.agg78 F.ti78) ?_
          refine lstW_nil ?_
          refine exW_next (listed' := [true, true, true, true, false, false, false, false, false, false, false, false, false].toArray) rfl ?_
          refine anyW_ops (rs := [4]) (by kernel_rfl) (by simp) (fun i hi => ?_)
          obtain rfl := List.mem_singleton.1 hi
          refine ⟨_, rfl, ?_⟩
          refine lstW_of only_out ?_
          refine lst_fn0 (vs := [_, _, _]) rfl rfl F.ent45 (fun a w ha => splan_c l lA lc Lb Sb Wb st p k (by have := hM.st4; omega) hks w (hM.later (by rw [hB]; exact ha.below))) ?_
          refine lst_nil ?_
          refine exW_next (listed' := [true, true, true, true, true, false, false, false, false, false, false, false, false].toArray) rfl ?_
          exact hmid _ _ (by repeat (first | exact Sub.nil _ | refine Sub.cons rfl ?_)) (by repeat (first | exact List.Sublist.refl _ | exact List.nil_sublist _ | refine List.Sublist.cons_cons _ ?_ | refine List.Sublist.cons _ ?_))
        · skip
          refine ⟨_, rfl, ?_⟩
          refine lstW_yld rfl rfl (yld_loadN rfl F.agg78 F.ti78) ?_
          refine lstW_nil ?_
          refine exW_next (listed' := [false, true, true, true, false, false, false, false, false, false, false, false, false].toArray) rfl ?_
          refine anyW_ops (rs := [0, 4]) (by kernel_rfl) (by simp) (fun i hi => ?_)
          simp only [List.mem_cons, List.not_mem_nil, or_false] at hi
          rcases hi with rfl | rfl
          · skip
            refine ⟨_, rfl, ?_⟩
            refine lstW_yld rfl rfl (yld_loadN rfl F.agg78 F.ti78) ?_
            refine lstW_nil ?_
            refine exW_next (listed' := [true, true, true, true, false, false, false, false, false, false, false, false, false].toArray) rfl ?_
            refine anyW_ops (rs := [4]) (by kernel_rfl) (by simp) (fun i hi => ?_)
            obtain rfl := List.mem_singleton.1 hi
            refine ⟨_, rfl, ?_⟩
            refine lstW_of only_out ?_
            refine lst_fn0 (vs := [_, _, _]) rfl rfl F.ent45 (fun a w ha => splan_c l lA lc Lb Sb Wb st p k (by have := hM.st4; omega) hks w (hM.later (by rw [hB]; exact ha.below))) ?_
            refine lst_nil ?_
            refine exW_next (listed' := [true, true, true, true, true, false, false, false, false, false, false, false, false].toArray) rfl ?_
            exact hmid _ _ (by repeat (first | exact Sub.nil _ | refine Sub.cons rfl ?_)) (by repeat (first | exact List.Sublist.refl _ | exact List.nil_sublist _ | refine List.Sublist.cons_cons _ ?_ | refine List.Sublist.cons _ ?_))
          · skip
            refine ⟨_, rfl, ?_⟩
            refine lstW_of only_out ?_
            refine lst_fn0 (vs := [_, _, _]) rfl rfl F.ent45 (fun a w ha => splan_c l lA lc Lb Sb Wb st p k (by have := hM.st4; omega) hks w (hM.later (by rw [hB]; exact ha.below))) ?_
            refine lst_nil ?_
            refine exW_next (listed' := [false, true, true, true, true, false, false, false, false, false, false, false, false].toArray) rfl ?_
            refine anyW_ops (rs := [0]) (by kernel_rfl) (by simp) (fun i hi => ?_)
            obtain rfl := List.mem_singleton.1 hi
            refine ⟨_, rfl, ?_⟩
            refine lstW_yld rfl rfl (yld_loadN rfl F.agg78 F.ti78) ?_
            refine lstW_nil ?_
            refine exW_next (listed' := [true, true, true, true, true, false, false, false, false, false, false, false, false].toArray) rfl ?_
            exact hmid _ _ (by repeat (first | exact Sub.nil _ | refine Sub.cons rfl ?_)) (by repeat (first | exact List.Sublist.refl _ | exact List.nil_sublist _ | refine List.Sublist.cons_cons _ ?_ | refine List.Sublist.cons _ ?_))
    · skip
      refine ⟨_, rfl, ?_⟩
      refine lstW_yld rfl rfl (yld_loadN rfl F.agg86 F.ti86) ?_
      refine lstW_nil ?_
      refine exW_next (listed' := [false, false, false, true, false, false, false, false, false, false, false, false, false].toArray) rfl ?_
      refine anyW_ops (rs := [0, 1, 2]) (by kernel_rfl) (by simp) (fun i hi => ?_)
      simp only [List.mem_cons, List.not_mem_nil, or_false] at hi
      rcases hi with rfl | rfl | rfl
      · skip
        refine ⟨_, rfl, ?_⟩
        refine lstW_yld rfl rfl (yld_loadN rfl F.agg78 F.ti78) ?_
        refine lstW_nil ?_
        refine exW_next (listed' := [true, false, false, true, false, false, false, false, false, false, false, false, false].toArray) rfl ?_
        refine anyW_ops (rs := [1, 2]) (by kernel_rfl) (by simp) (fun i hi => ?_)
        simp only [List.mem_cons, List.not_mem_nil, or_false] at hi
        rcases hi with rfl | rfl
        · skip
          refine ⟨_, rfl, ?_⟩
          refine lstW_yld rfl rfl (yld_loadN rfl F.agg78 F.ti78) ?_
          refine lstW_nil ?_
          refine exW_next (listed' := [true, true, false, true, false, false, false, false, false, false, false, false, false].toArray) rfl ?_
          refine anyW_ops (rs := [2]) (by kernel_rfl) (by simp) (fun i hi => ?_)
          obtain rfl := List.mem_singleton.1 hi
          refine ⟨_, rfl, ?_⟩
          refine lstW_yld rfl rfl (yld_load rfl F.one82) ?_
          refine lstW_nil ?_
          refine exW_next (listed' := [true, true, true, true, false, false, false, false, false, false, false, false, false].toArray) rfl ?_
          refine anyW_ops (rs := [4]) (by kernel_rfl) (by simp) (fun i hi => ?_)
          obtain rfl := List.mem_singleton.1 hi
          refine ⟨_, rfl, ?_⟩
          refine lstW_of only_out ?_
          refine lst_fn0 (vs := [_, _, _]) rfl rfl F.ent45 (fun a w ha => splan_c l lA lc Lb Sb Wb st p k (by have := hM.st4; omega) hks w (hM.later (by rw [hB]; exact ha.below))) ?_
          refine lst_nil ?_
          refine exW_next (listed' := [true, true, true, true, true, false, false, false, false, false, false, false, false].toArray) rfl ?_
          exact hmid _ _ (by repeat (first | exact Sub.nil _ | refine Sub.cons rfl ?_)) (by repeat (first | exact List.Sublist.refl _ | exact List.nil_sublist _ | refine List.Sublist.cons_cons _ ?_ | refine List.Sublist.cons _ ?_))
        · skip
          refine ⟨_, rfl, ?_⟩
          refine lstW_yld rfl rfl (yld_load rfl F.one82) ?_
          refine lstW_nil ?_
          refine exW_next (listed' := [true, false, true, true, false, false, false, false, false, false, false, false, false].toArray) rfl ?_
          refine anyW_ops (rs := [1]) (by kernel_rfl) (by simp) (fun i hi => ?_)
          obtain rfl := List.mem_singleton.1 hi
          refine ⟨_, rfl, ?_⟩
          refine lstW_yld rfl rfl (yld_loadN rfl F.agg78 F.ti78) ?_
          refine lstW_nil ?_
          refine exW_next (listed' := [true, true, true, true, false, false, false, false, false, false, false, false, false].toArray) rfl ?_
          refine anyW_ops (rs := [4]) (by kernel_rfl) (by simp) (fun i hi => ?_)
          obtain rfl := List.mem_singleton.1 hi
          refine ⟨_, rfl, ?_⟩
          refine lstW_of only_out ?_
          refine lst_fn0 (vs := [_, _, _]) rfl rfl F.ent45 (fun a w ha => splan_c l lA lc Lb Sb Wb st p k (by have := hM.st4; omega) hks w (hM.later (by rw [hB]; exact ha.below))) ?_
          refine lst_nil ?_
          refine exW_next (listed' := [true, true, true, true, true, false, false, false, false, false, false, false, false].toArray) rfl ?_
          exact hmid _ _ (by repeat (first | exact Sub.nil _ | refine Sub.cons rfl ?_)) (by repeat (first | exact List.Sublist.refl _ | exact List.nil_sublist _ | refine List.Sublist.cons_cons _ ?_ | refine List.Sublist.cons _ ?_))
      · skip
        refine ⟨_, rfl, ?_⟩
        refine lstW_yld rfl rfl (yld_loadN rfl F.agg78 F.ti78) ?_
        refine lstW_nil ?_
        refine exW_next (listed' := [false, true, false, true, false, false, false, false, false, false, false, false, false].toArray) rfl ?_
        refine anyW_ops (rs := [0, 2]) (by kernel_rfl) (by simp) (fun i hi => ?_)
        simp only [List.mem_cons, List.not_mem_nil, or_false] at hi
        rcases hi with rfl | rfl
        · skip
          refine ⟨_, rfl, ?_⟩
          refine lstW_yld rfl rfl (yld_loadN rfl F.agg78 F.ti78) ?_
          refine lstW_nil ?_
          refine exW_next (listed' := [true, true, false, true, false, false, false, false, false, false, false, false, false].toArray) rfl ?_
          refine anyW_ops (rs := [2]) (by kernel_rfl) (by simp) (fun i hi => ?_)
          obtain rfl := List.mem_singleton.1 hi
          refine ⟨_, rfl, ?_⟩
          refine lstW_yld rfl rfl (yld_load rfl F.one82) ?_
          refine lstW_nil ?_
          refine exW_next (listed' := [true, true, true, true, false, false, false, false, false, false, false, false, false].toArray) rfl ?_
          refine anyW_ops (rs := [4]) (by kernel_rfl) (by simp) (fun i hi => ?_)
          obtain rfl := List.mem_singleton.1 hi
          refine ⟨_, rfl, ?_⟩
          refine lstW_of only_out ?_
          refine lst_fn0 (vs := [_, _, _]) rfl rfl F.ent45 (fun a w ha => splan_c l lA lc Lb Sb Wb st p k (by have := hM.st4; omega) hks w (hM.later (by rw [hB]; exact ha.below))) ?_
          refine lst_nil ?_
          refine exW_next (listed' := [true, true, true, true, true, false, false, false, false, false, false, false, false].toArray) rfl ?_
          exact hmid _ _ (by repeat (first | exact Sub.nil _ | refine Sub.cons rfl ?_)) (by repeat (first | exact List.Sublist.refl _ | exact List.nil_sublist _ | refine List.Sublist.cons_cons _ ?_ | refine List.Sublist.cons _ ?_))
        · skip
          refine ⟨_, rfl, ?_⟩
          refine lstW_yld rfl rfl (yld_load rfl F.one82) ?_
          refine lstW_nil ?_
          refine exW_next (listed' := [false, true, true, true, false, false, false, false, false, false, false, false, false].toArray) rfl ?_
          refine anyW_ops (rs := [0, 4]) (by kernel_rfl) (by simp) (fun i hi => ?_)
          simp only [List.mem_cons, List.not_mem_nil, or_false] at hi
          rcases hi with rfl | rfl
          · skip
            refine ⟨_, rfl, ?_⟩
            refine lstW_yld rfl rfl (yld_loadN rfl F.agg78 F.ti78) ?_
            refine lstW_nil ?_
            refine exW_next (listed' := [true, true, true, true, false, false, false, false, false, false, false, false, false].toArray) rfl ?_
            refine anyW_ops (rs := [4]) (by kernel_rfl) (by simp) (fun i hi => ?_)
            obtain rfl := List.mem_singleton.1 hi
            refine ⟨_, rfl, ?_⟩
            refine lstW_of only_out ?_
            refine lst_fn0 (vs := [_, _, _]) rfl rfl F.ent45 (fun a w ha => splan_c l lA lc Lb Sb Wb st p k (by have := hM.st4; omega) hks w (hM.later (by rw [hB]; exact ha.below))) ?_
            refine lst_nil ?_
            refine exW_next (listed' := [true, true, true, true, true, false, false, false, false, false, false, false, false].toArray) rfl ?_
            exact hmid _ _ (by repeat (first | exact Sub.nil _ | refine Sub.cons rfl ?_)) (by repeat (first | exact List.Sublist.refl _ | exact List.nil_sublist _ | refine List.Sublist.cons_cons _ ?_ | refine List.Sublist.cons _ ?_))
          · skip
            refine ⟨_, rfl, ?_⟩
            refine lstW_of only_out ?_
            refine lst_fn0 (vs := [_, _, _]) rfl rfl F.ent45 (fun a w ha => splan_c l lA lc Lb Sb Wb st p k (by have := hM.st4; omega) hks w (hM.later (by rw [hB]; exact ha.below))) ?_
            refine lst_nil ?_
            refine exW_next (listed' := [false, true, true, true, true, false, false, false, false, false, false, false, false].toArray) rfl ?_
            refine anyW_ops (rs := [0]) (by kernel_rfl) (by simp) (fun i hi => ?_)
            obtain rfl := List.mem_singleton.1 hi
            refine ⟨_, rfl, ?_⟩
            refine lstW_yld rfl rfl (yld_loadN rfl F.agg78 F.ti78) ?_
            refine lstW_nil ?_
            refine exW_next (listed' := [true, true, true, true, true, false, false, false, false, false, false, false, false].toArray) rfl ?_
            exact hmid _ _ (by repeat (first | exact Sub.nil _ | refine Sub.cons rfl ?_)) (by repeat (first | exact List.Sublist.refl _ | exact List.nil_sublist _ | refine List.Sublist.cons_cons _ ?_ | refine List.Sublist.cons _ ?_))
      · skip
        refine ⟨_, rfl, ?_⟩
        refine lstW_yld rfl rfl (yld_load rfl F.one82) ?_
        refine lstW_nil ?_
        refine exW_next (listed' := [false, false, true, true, false, false, false, false, false, false, false, false, false].toArray) rfl ?_
        refine anyW_ops (rs := [0, 1]) (by kernel_rfl) (by simp) (fun i hi => ?_)
        simp only [List.mem_cons, List.not_mem_nil, or_false] at hi
        rcases hi with rfl | rfl
        · skip
          refine ⟨_, rfl, ?_⟩
          refine lstW_yld rfl rfl (yld_loadN rfl F.agg78 F.ti78) ?_
          refine lstW_nil ?_
          refine exW_next (listed' := [true, false, true, true, false, false, false, false, false, false, false, false, false].toArray) rfl ?_
          refine anyW_ops (rs := [1]) (by kernel_rfl) (by simp) (fun i hi => ?_)
          obtain rfl := List.mem_singleton.1 hi
          refine ⟨_, rfl, ?_⟩
          refine lstW_yld rfl rfl (yld_loadN rfl F.agg78 F.ti78) ?_
          refine lstW_nil ?_
          refine exW_next (listed' := [true, true, true, true, false, false, false, false, false, false, false, false, false].toArray) rfl ?_
          refine anyW_ops (rs := [4]) (by kernel_rfl) (by simp) (fun i hi => ?_)
          obtain rfl := List.mem_singleton.1 hi
          refine ⟨_, rfl, ?_⟩
          refine lstW_of only_out ?_
          refine lst_fn0 (vs := [_, _, _]) rfl rfl F.ent45 (fun a w ha => splan_c l lA lc Lb Sb Wb st p k (by have := hM.st4; omega) hks w (hM.later (by rw [hB]; exact ha.below))) ?_
          refine lst_nil ?_
          refine exW_next (listed' := [true, true, true, true, true, false, false, false, false, false, false, false, false].toArray) rfl ?_
          exact hmid _ _ (by repeat (first | exact Sub.nil _ | refine Sub.cons rfl ?_)) (by repeat (first | exact List.Sublist.refl _ | exact List.nil_sublist _ | refine List.Sublist.cons_cons _ ?_ | refine List.Sublist.cons _ ?_))
        · skip
          refine ⟨_, rfl, ?_⟩
          refine lstW_yld rfl rfl (yld_loadN rfl F.agg78 F.ti78) ?_
          refine lstW_nil ?_
          refine exW_next (listed' := [false, true, true, true, false, false, false, false, false, false, false, false, false].toArray) rfl ?_
          refine anyW_ops (rs := [0, 4]) (by kernel_rfl) (by simp) (fun i hi => ?_)
          simp only [List.mem_cons, List.not_mem_nil, or_false] at hi
          rcases hi with rfl | rfl
          · skip
            refine ⟨_, rfl, ?_⟩
            refine lstW_yld rfl rfl (yld_loadN rfl F.agg78 F.ti78) ?_
            refine lstW_nil ?_
            refine exW_next (listed' := [true, true, true, true, false, false, false, false, false, false, false, false, false].toArray) rfl ?_
            refine anyW_ops (rs := [4]) (by kernel_rfl) (by simp) (fun i hi => ?_)
            obtain rfl := List.mem_singleton.1 hi
            refine ⟨_, rfl, ?_⟩
            refine lstW_of only_out ?_
            refine lst_fn0 (vs := [_, _, _]) rfl rfl F.ent45 (fun a w ha => splan_c l lA lc Lb Sb Wb st p k (by have := hM.st4; omega) hks w (hM.later (by rw [hB]; exact ha.below))) ?_
            refine lst_nil ?_
            refine exW_next (listed' := [true, true, true, true, true, false, false, false, false, false, false, false, false].toArray) rfl ?_
            exact hmid _ _ (by repeat (first | exact Sub.nil _ | refine Sub.cons rfl ?_)) (by repeat (first | exact List.Sublist.refl _ | exact List.nil_sublist _ | refine List.Sublist.cons_cons _ ?_ | refine List.Sublist.cons _ ?_))
          · skip
            refine ⟨_, rfl, ?_⟩
            refine lstW_of only_out ?_
            refine lst_fn0 (vs := [_, _, _]) rfl rfl F.ent45 (fun a w ha => splan_c l lA lc Lb Sb Wb st p k (by have := hM.st4; omega) hks w (hM.later (by rw [hB]; exact ha.below))) ?_
            refine lst_nil ?_
            refine exW_next (listed' := [false, true, true, true, true, false, false, false, false, false, false, false, false].toArray) rfl ?_
            refine anyW_ops (rs := [0]) (by kernel_rfl) (by simp) (fun i hi => ?_)
            obtain rfl := List.mem_singleton.1 hi
            refine ⟨_, rfl, ?_⟩
            refine lstW_yld rfl rfl (yld_loadN rfl F.agg78 F.ti78) ?_
            refine lstW_nil ?_
            refine exW_next (listed' := [true, true, true, true, true, false, false, false, false, false, false, false, false].toArray) rfl ?_
            exact hmid _ _ (by repeat (first | exact Sub.nil _ | refine Sub.cons rfl ?_)) (by repeat (first | exact List.Sublist.refl _ | exact List.nil_sublist _ | refine List.Sublist.cons_cons _ ?_ | refine List.Sublist.cons _ ?_))
  refine anyW_ops (rs := [5]) (by kernel_rfl) (by simp) (fun i hi => ?_)
  obtain rfl := List.mem_singleton.1 hi
  refine ⟨_, rfl, ?_⟩
  refine lstW_of only_out ?_
  refine lst_fn0 (v := .nilIface) (vs := [_, _]) rfl rfl F.ent47 (fun a w ha => (sright_c l lA lc Lb Sb Wb st p k (k * sumN l) hk (by omega) w (hM.later (by rw [hB]; exact ha.below))).mono (fun e w' h => ⟨by rw [h.1, if_neg (by omega)], h.2⟩)) ?_
  refine lst_nil ?_
  refine exW_next (listed' := [true, true, true, true, true, true, false, false, false, false, false, false, false].toArray) rfl ?_
  refine anyW_ops (rs := [6]) (by kernel_rfl) (by simp) (fun i hi => ?_)
  obtain rfl := List.mem_singleton.1 hi
  refine ⟨_, rfl, ?_⟩
  refine lstW_of only_out ?_
  refine lst_bin (v := .bool false) rfl rfl rfl (run_neq_nilIface Tryd.underlying104 _) ?_
  refine lst_nil ?_
  refine exW_next (listed' := [true, true, true, true, true, true, true, false, false, false, false, false, false].toArray) rfl ?_
  refine anyW_ops (rs := [7]) (by kernel_rfl) (by simp) (fun i hi => ?_)
  obtain rfl := List.mem_singleton.1 hi
  refine ⟨_, rfl, ?_⟩
  refine lstW_yld rfl rfl (yld_move rfl) ?_
  refine lstW_nil ?_
  refine exW_next (listed' := [true, true, true, true, true, true, true, true, false, false, false, false, false].toArray) rfl ?_
  refine anyW_mid (fuelM := 3) (listedM := [true, true, true, true, true, true, true, true, true, true, false, false, false].toArray) (frM := [(24, .func (.yield r) #[] #[]), (25, .agg [.int .i64 (k : Int), .int .i64 0, .int .i64 0].toArray), (23, .bool false), (16, .agg [.slice (some ⟨Lb, 0, none⟩) 1 1, .slice (some ⟨Sb, 0, none⟩) 1 1, .int .i64 1, .slice (some ⟨Wb, 0, none⟩) 1 1].toArray), (17, .agg [.slice (some ⟨Lb, 0, none⟩) 1 1, .slice (some ⟨Sb, 0, none⟩) 1 1, .int .i64 1, .slice (some ⟨Wb, 0, none⟩) 1 1].toArray), (18, .int .u8 1), (19, .agg [.int .i64 (k : Int), .int .i64 0, .int .i64 0].toArray), (20, .agg [.int .i64 (k : Int), .int .i64 0, .int .i64 0, .int .i64 (k * sumN l : Int), .int .i64 0, .int .i64 0, .int .i64 0, .int .i64 0, .int .i64 0, .int .i64 (p : Int)].toArray), (6, .pointer (some ⟨b6, 0, none⟩)), (8, .bool false), (0, .agg [.int .i64 (k : Int), .int .i64 0, .int .i64 0].toArray), (1, .int .i64 1), (2, .pointer (some ⟨sb, 0, none⟩)), (3, .pointer (some ⟨wb, 0, none⟩)), (4, .pointer (some ⟨yb, 0, none⟩)), (5, .pointer (some ⟨gb, 0, none⟩))]) (hpM := .blk b6 (.cells [.int .i64 (k : Int), .int .i64 0, .int .i64 0].toArray 86 (0, 0)) :: .blk gb (.cells [.func (.func 70) ([] : List Value).toArray [.pointer (some ⟨sb, 0, none⟩), .pointer (some ⟨wb, 0, none⟩), .pointer (some ⟨yb, 0, none⟩), .pointer (some ⟨gb, 0, none⟩)].toArray].toArray 166 (0, 0)) :: .blk yb (.cells [.func (.yield r) #[] #[]].toArray 164 (0, 0)) :: .blk r (.loop rec) :: .blk sb (.cells [.slice (some ⟨Lb, 0, none⟩) 1 1, .slice (some ⟨Sb, 0, none⟩) 1 1, .int .i64 1, .slice (some ⟨Wb, 0, none⟩) 1 1].toArray 78 (0, 0)) :: .blk wb (.cells [.int .u8 1].toArray 82 (0, 0)) :: T) ?_ (fun hmid => ?_)
  rotate_left
  · skip
    refine anyW_ops (rs := [8, 9]) (by kernel_rfl) (by simp) (fun i hi => ?_)
    simp only [List.mem_cons, List.not_mem_nil, or_false] at hi
    rcases hi with rfl | rfl
    · skip
      refine ⟨_, rfl, ?_⟩
      refine lstW_on rfl rfl ?_
      refine lstW_yld rfl rfl (yld_load rfl F.one164) ?_
      refine lstW_nil ?_
      refine exW_next (listed' := [true, true, true, true, true, true, true, true, true, false, false, false, false].toArray) rfl ?_
      refine anyW_ops (rs := [9]) (by kernel_rfl) (by simp) (fun i hi => ?_)
      obtain rfl := List.mem_singleton.1 hi
      refine ⟨_, rfl, ?_⟩
      refine lstW_on rfl rfl ?_
      refine lstW_yld rfl rfl (yld_loadN rfl F.agg86 F.ti86) ?_
      refine lstW_nil ?_
      refine exW_next (listed' := [true, true, true, true, true, true, true, true, true, true, false, false, false].toArray) rfl ?_
      exact hmid _ _ (by repeat (first | exact Sub.nil _ | refine Sub.cons rfl ?_)) (by repeat (first | exact List.Sublist.refl _ | exact List.nil_sublist _ | refine List.Sublist.cons_cons _ ?_ | refine List.Sublist.cons _ ?_))
    · skip
      refine ⟨_, rfl, ?_⟩
      refine lstW_on rfl rfl ?_
      refine lstW_yld rfl rfl (yld_loadN rfl F.agg86 F.ti86) ?_
      refine lstW_nil ?_
      refine exW_next (listed' := [true, true, true, true, true, true, true, true, false, true, false, false, false].toArray) rfl ?_
      refine anyW_ops (rs := [8]) (by kernel_rfl) (by simp) (fun i hi => ?_)
      obtain rfl := List.mem_singleton.1 hi
      refine ⟨_, rfl, ?_⟩
      refine lstW_on rfl rfl ?_
      refine lstW_yld rfl rfl (yld_load rfl F.one164) ?_
      refine lstW_nil ?_
      refine exW_next (listed' := [true, true, true, true, true, true, true, true, true, true, false, false, false].toArray) rfl ?_
      exact hmid _ _ (by repeat (first | exact Sub.nil _ | refine Sub.cons rfl ?_)) (by repeat (first | exact List.Sublist.refl _ | exact List.nil_sublist _ | refine List.Sublist.cons_cons _ ?_ | refine List.Sublist.cons _ ?_))
  refine anyW_ops (rs := [10]) (by kernel_rfl) (by simp) (fun i hi => ?_)
  obtain rfl := List.mem_singleton.1 hi
  refine ⟨_, rfl, ?_⟩
  refine lstW_on rfl rfl ?_
  refine lstW_yield (hpT := .blk b6 (.cells [.int .i64 (k : Int), .int .i64 0, .int .i64 0].toArray 86 (0, 0)) :: .blk gb (.cells [.func (.func 70) ([] : List Value).toArray [.pointer (some ⟨sb, 0, none⟩), .pointer (some ⟨wb, 0, none⟩), .pointer (some ⟨yb, 0, none⟩), .pointer (some ⟨gb, 0, none⟩)].toArray].toArray 166 (0, 0)) :: .blk yb (.cells [.func (.yield r) #[] #[]].toArray 164 (0, 0)) :: .blk r (.loop rec) :: .blk sb (.cells [.slice (some ⟨Lb, 0, none⟩) 1 1, .slice (some ⟨Sb, 0, none⟩) 1 1, .int .i64 1, .slice (some ⟨Wb, 0, none⟩) 1 1].toArray 78 (0, 0)) :: .blk wb (.cells [.int .u8 1].toArray 82 (0, 0)) :: T') (vs := [_]) (M := fun _ => False) True rfl rfl rfl (fun a w ha => yieldAt_mono (hY _ _ _ [.blk b6 (.cells [.int .i64 (k : Int), .int .i64 0, .int .i64 0].toArray 86 (0, 0)), .blk gb (.cells [.func (.func 70) ([] : List Value).toArray [.pointer (some ⟨sb, 0, none⟩), .pointer (some ⟨wb, 0, none⟩), .pointer (some ⟨yb, 0, none⟩), .pointer (some ⟨gb, 0, none⟩)].toArray].toArray 166 (0, 0)), .blk yb (.cells [.func (.yield r) #[] #[]].toArray 164 (0, 0))] _ _ ha) (fun e w2 h => .inl ⟨h.1, trivial, h.2⟩)) (fun _ => ?_) (fun w2 hM => hM.elim)
  refine lstW_nil ?_
  refine exW_next (listed' := [true, true, true, true, true, true, true, true, true, true, true, false, false].toArray) rfl ?_
  refine anyW_ops (rs := [11]) (by kernel_rfl) (by simp) (fun i hi => ?_)
  obtain rfl := List.mem_singleton.1 hi
  refine ⟨_, rfl, ?_⟩
  refine lstW_yld rfl rfl (yld_pick_false rfl rfl) ?_
  refine lstW_nil ?_
  refine exW_next (listed' := [true, true, true, true, true, true, true, true, true, true, true, true, false].toArray) rfl ?_
  refine anyW_ops (rs := [12]) (by kernel_rfl) (by simp) (fun i hi => ?_)
  obtain rfl := List.mem_singleton.1 hi
  refine ⟨_, rfl, ?_⟩
  refine lstW_yld rfl rfl (yld_assign rfl) ?_
  refine lstW_nil ?_
  refine exW_next (listed' := [true, true, true, true, true, true, true, true, true, true, true, true, true].toArray) rfl ?_
  refine anyW_done rfl (by kernel_rfl) ?_
  refine ex_then ?_
  refine cod_ret ?_
  refine ex_then_ret ?_
  exact ex_ret rfl (fun a w ha => res_one rfl rfl ha) (fun _ _ ha' => ⟨rfl, ha.back (ha'.pck (by repeat (first | exact Pck.nil _ | exact Pck.refl _ | (apply Pck.cons; focus ((repeat (first | exact Rem.here _ | apply Rem.there)); done)) | refine Pck.skip _ ?_)))⟩)

end Go.Proofs.YthkbagikmbcphaaDoor.N
namespace Go.Proofs.YthkbagikmbcphaaDoor.N
open Go Go.RowKit Go.Proofs
theorem F.ent69 : Enters Tryd.prog 69 := enters_of Tryd.func69 rfl (by kernel_rfl)
theorem F.ent70 : Enters Tryd.prog 70 := enters_of Tryd.func70 rfl (by kernel_rfl)
theorem F.one166 : One Tryd.prog 166 := ⟨by unfold aggB; rw [Tryd.underlying166], by rw [Tryd.underlying166]; simp⟩
theorem F.pl86 : Places Tryd.prog 86 [(0, 1), (1, 1), (2, 1)] := .inr ⟨_, _, 1, Tryd.underlying86, by kernel_rfl, rfl⟩
theorem F.ti166 : TI Tryd.prog 166 (.nilFunc) 1 8 := TI.of (by kernel_rfl)
theorem grow_0 {C : Ctx} {fr : List (Nat × Value)} {T : List Res} {a : Act} {w : World} (hC : C.P = Tryd.prog) {l : List Nat} {lA : Option Addr} {lc Lb Sb Wb st p r sb wb yb gb : Nat} {rec : Loop} (hB : C.w0.heap.size = C.B) (hM : SawM C.w0 l lA lc Lb Sb Wb st p) {T' : List Res} (hY : p ≤ st * sumN l → YSpecIn C.P C.B C.w0 r (.agg [.int .i64 (st : Int), .int .i64 0, .int .i64 0].toArray) (.blk r (.loop rec) :: .blk sb (.cells [.slice (some ⟨Lb, 0, none⟩) 1 1, .slice (some ⟨Sb, 0, none⟩) 1 1, .int .i64 1, .slice (some ⟨Wb, 0, none⟩) 1 1].toArray 78 (0, 0)) :: .blk wb (.cells [.int .u8 1].toArray 82 (0, 0)) :: T) (.blk r (.loop rec) :: .blk sb (.cells [.slice (some ⟨Lb, 0, none⟩) 1 1, .slice (some ⟨Sb, 0, none⟩) 1 1, .int .i64 1, .slice (some ⟨Wb, 0, none⟩) 1 1].toArray 78 (0, 0)) :: .blk wb (.cells [.int .u8 1].toArray 82 (0, 0)) :: T')) (ha : At C fr (.blk gb (.cells [.func (.func 70) ([] : List Value).toArray [.pointer (some ⟨sb, 0, none⟩), .pointer (some ⟨wb, 0, none⟩), .pointer (some ⟨yb, 0, none⟩), .pointer (some ⟨gb, 0, none⟩)].toArray].toArray 166 (0, 0)) :: .blk yb (.cells [.func (.yield r) #[] #[]].toArray 164 (0, 0)) :: .blk r (.loop rec) :: .blk sb (.cells [.slice (some ⟨Lb, 0, none⟩) 1 1, .slice (some ⟨Sb, 0, none⟩) 1 1, .int .i64 1, .slice (some ⟨Wb, 0, none⟩) 1 1].toArray 78 (0, 0)) :: .blk wb (.cells [.int .u8 1].toArray 82 (0, 0)) :: T) a w) : Calls C.P 70 #[.agg [.int .i64 0, .int .i64 0, .int .i64 0].toArray, .int .i64 0, .pointer (some ⟨sb, 0, none⟩), .pointer (some ⟨wb, 0, none⟩), .pointer (some ⟨yb, 0, none⟩), .pointer (some ⟨gb, 0, none⟩)] w fun e w' => e = .returned (.bool true) ∧ At C fr (.blk gb (.cells [.func (.func 70) ([] : List Value).toArray [.pointer (some ⟨sb, 0, none⟩), .pointer (some ⟨wb, 0, none⟩), .pointer (some ⟨yb, 0, none⟩), .pointer (some ⟨gb, 0, none⟩)].toArray].toArray 166 (0, 0)) :: .blk yb (.cells [.func (.yield r) #[] #[]].toArray 164 (0, 0)) :: .blk r (.loop rec) :: .blk sb (.cells [.slice (some ⟨Lb, 0, none⟩) 1 1, .slice (some ⟨Sb, 0, none⟩) 1 1, .int .i64 1, .slice (some ⟨Wb, 0, none⟩) 1 1].toArray 78 (0, 0)) :: .blk wb (.cells [.int .u8 1].toArray 82 (0, 0)) :: (if p ≤ st * sumN l then T' else T)) a w' := by
  obtain ⟨P, B, w0, N0, ds⟩ := C
  obtain rfl : P = Tryd.prog := hC
  (try dsimp only at hB)
  (try dsimp only at hM)
  (try dsimp only at hY)
  refine enter_in (N := 48) [(0, .agg [.int .i64 0, .int .i64 0, .int .i64 0].toArray), (1, .int .i64 0), (2, .pointer (some ⟨sb, 0, none⟩)), (3, .pointer (some ⟨wb, 0, none⟩)), (4, .pointer (some ⟨yb, 0, none⟩)), (5, .pointer (some ⟨gb, 0, none⟩))] ha Tryd.func70 rfl Tryd.ntmps70 rfl rfl ?_
  refine cod_seq ?_
  refine cod_region ?_
  refine lst_box rfl rfl ?_
  intro b6
  refine lst_assign rfl rfl ?_
  refine lst_nil ?_
  refine ex_then ?_
  refine cod_seq ?_
  refine cod_seq ?_
  refine cod_region ?_
  refine lst_move rfl rfl ?_
  refine lst_field_z rfl rfl F.fi78_0 F.ti40 ?_
  refine lst_field_z rfl rfl F.fi40_0 F.ti37 ?_
  refine lst_load rfl rfl F.one37 ?_
  refine lst_len rfl rfl Tryd.underlying37 ?_
  refine lst_int rfl rfl rfl bin_eql ?_
  refine lst_nil ?_
  refine ex_then ?_
  refine cod_cond_false rfl ?_
  refine cod_skip ?_
  refine ex_then ?_
  refine cod_seq ?_
  refine cod_seq ?_
  refine cod_region ?_
  refine lst_field_z rfl rfl F.fi78_0 F.ti40 ?_
  refine lst_field_z rfl rfl F.fi40_1 F.ti22 ?_
  refine lst_load rfl rfl F.one22 ?_
  refine lst_move rfl rfl ?_
  refine lst_index (j := 0) rfl rfl rfl Tryd.underlying22 F.ti3 rfl (by decide) ?_
  have hst4 := hM.st4
  refine lst_load_at (v := .int .i64 (st : Int)) rfl rfl F.one3 (fun a w ha => (hM.later (by rw [hB]; exact ha.below)).S) ?_
  refine lst_int (v := .int .i64 ((st + 1 : Nat) : Int)) rfl rfl rfl (fun w => bin_add w (by rw [wrap_i64' _ (by omega) (by omega)] <;> omega)) ?_
  refine lst_move rfl rfl ?_
  refine lst_nil ?_
  refine ex_then ?_
  refine cod_block ?_
  refine cod_loop' (G := Nat) (fun g => g ≤ st + 1) (fun g => st + 1 - g) (fun g => [(0, .agg [.int .i64 0, .int .i64 0, .int .i64 0].toArray), (1, .int .i64 0), (2, .pointer (some ⟨sb, 0, none⟩)), (3, .pointer (some ⟨wb, 0, none⟩)), (4, .pointer (some ⟨yb, 0, none⟩)), (5, .pointer (some ⟨gb, 0, none⟩)), (6, .pointer (some ⟨b6, 0, none⟩)), (34, .int .i64 ((st + 1 : Nat) : Int)), (35, .int .i64 (g : Int))]) (fun g => .blk b6 (.cells [.int .i64 ((g - 1 : Nat) : Int), .int .i64 0, .int .i64 0].toArray 86 (0, 0)) :: .blk gb (.cells [.func (.func 70) ([] : List Value).toArray [.pointer (some ⟨sb, 0, none⟩), .pointer (some ⟨wb, 0, none⟩), .pointer (some ⟨yb, 0, none⟩), .pointer (some ⟨gb, 0, none⟩)].toArray].toArray 166 (0, 0)) :: .blk yb (.cells [.func (.yield r) #[] #[]].toArray 164 (0, 0)) :: .blk r (.loop rec) :: .blk sb (.cells [.slice (some ⟨Lb, 0, none⟩) 1 1, .slice (some ⟨Sb, 0, none⟩) 1 1, .int .i64 1, .slice (some ⟨Wb, 0, none⟩) 1 1].toArray 78 (0, 0)) :: .blk wb (.cells [.int .u8 1].toArray 82 (0, 0)) :: (if g = st + 1 ∧ p ≤ st * sumN l then T' else T)) (0) (Nat.zero_le _) (by repeat (first | exact Sub.nil _ | refine Sub.cons rfl ?_)) (by rw [if_neg (by omega)]; exact Pck.refl _) ?_
  rintro k hk
  (try dsimp only at hk ⊢)
  refine cod_seq ?_
  refine cod_region ?_
  refine lst_int rfl rfl rfl bin_lss ?_
  refine lst_nil ?_
  refine ex_then ?_
  refine cod_seq ?_
  refine cod_cond_dec rfl (fun hc1 => ?_) (fun hc1 => ?_)
  · skip
    have hks : k ≤ st := by omega
    rw [show (if k = st + 1 ∧ p ≤ st * sumN l then T' else T) = T from if_neg (by omega)]
    refine cod_skip ?_
    refine ex_then ?_
    refine cod_seq ?_
    refine cod_block ?_
    refine cod_seq ?_
    refine cod_region ?_
    refine lst_move rfl rfl ?_
    refine lst_assign rfl rfl ?_
    refine lst_nil ?_
    refine ex_then ?_
    refine cod_seq ?_
    refine cod_region ?_
    refine lst_move rfl rfl ?_
    refine lst_move rfl rfl ?_
    refine lst_index_lit (j := 0) (off := 0) rfl rfl rfl Tryd.underlying86 F.ti3 rfl rfl ?_
    refine lst_store rfl rfl F.ti3 rfl ?_
    refine lst_nil ?_
    refine ex_then ?_
    refine cod_seq ?_
    refine cod_region ?_
    refine lst_load rfl rfl F.one166 ?_
    refine lst_loadN rfl rfl F.agg86 F.ti86 ?_
    refine lst_move rfl rfl ?_
    refine lst_int (v := .int .i64 1) rfl rfl rfl (fun w => bin_add w (by decide)) ?_
    refine lst_call (X := Unit) (first := []) (cap := [.pointer (some ⟨sb, 0, none⟩), .pointer (some ⟨wb, 0, none⟩), .pointer (some ⟨yb, 0, none⟩), .pointer (some ⟨gb, 0, none⟩)]) (vs := [_, _]) (p := fun _ => True) (val := fun _ => .bool true) (rs := fun _ => .blk b6 (.cells [.int .i64 (k : Int), .int .i64 0, .int .i64 0].toArray 86 (0, 0)) :: .blk gb (.cells [.func (.func 70) ([] : List Value).toArray [.pointer (some ⟨sb, 0, none⟩), .pointer (some ⟨wb, 0, none⟩), .pointer (some ⟨yb, 0, none⟩), .pointer (some ⟨gb, 0, none⟩)].toArray].toArray 166 (0, 0)) :: .blk yb (.cells [.func (.yield r) #[] #[]].toArray 164 (0, 0)) :: .blk r (.loop rec) :: .blk sb (.cells [.slice (some ⟨Lb, 0, none⟩) 1 1, .slice (some ⟨Sb, 0, none⟩) 1 1, .int .i64 1, .slice (some ⟨Wb, 0, none⟩) 1 1].toArray 78 (0, 0)) :: .blk wb (.cells [.int .u8 1].toArray 82 (0, 0)) :: (if k + 1 = st + 1 ∧ p ≤ st * sumN l then T' else T)) rfl rfl rfl F.ent70 (fun a w ha => ?_) (fun _ _ => ?_)
    rotate_left
    rotate_right
    · have ha1 := ha.pck (hp' := .blk gb (.cells [.func (.func 70) ([] : List Value).toArray [.pointer (some ⟨sb, 0, none⟩), .pointer (some ⟨wb, 0, none⟩), .pointer (some ⟨yb, 0, none⟩), .pointer (some ⟨gb, 0, none⟩)].toArray].toArray 166 (0, 0)) :: .blk yb (.cells [.func (.yield r) #[] #[]].toArray 164 (0, 0)) :: .blk r (.loop rec) :: .blk sb (.cells [.slice (some ⟨Lb, 0, none⟩) 1 1, .slice (some ⟨Sb, 0, none⟩) 1 1, .int .i64 1, .slice (some ⟨Wb, 0, none⟩) 1 1].toArray 78 (0, 0)) :: .blk wb (.cells [.int .u8 1].toArray 82 (0, 0)) :: .blk b6 (.cells [.int .i64 (k : Int), .int .i64 0, .int .i64 0].toArray 86 (0, 0)) :: T) (by repeat (first | exact Pck.nil _ | exact Pck.refl _ | (apply Pck.cons; focus ((repeat (first | exact Rem.here _ | apply Rem.there)); done)) | refine Pck.skip _ ?_))
      by_cases hkp : k * sumN l < p
      · refine (grow_a (C := ⟨Tryd.prog, B, w0, _, _⟩) rfl hB hM (k := k) (by omega) hkp ha1).mono (fun e w' h => ⟨(), trivial, h.1, ?_⟩)
        rw [if_neg (fun hh => ?_)]
        · exact h.2.pck (by repeat (first | exact Pck.nil _ | exact Pck.refl _ | (apply Pck.cons; focus ((repeat (first | exact Rem.here _ | apply Rem.there)); done)) | refine Pck.skip _ ?_))
        · obtain rfl : k = st := by omega
          omega
      · have hks : k = st := by
          rcases Nat.lt_or_ge k st with h1 | h1
          · have h2 := Nat.mul_le_mul_right (sumN l) (show k ≤ st - 1 by omega)
            have h3 := hM.least
            omega
          · omega
        subst hks
        refine (grow_b (C := ⟨Tryd.prog, B, w0, _, _⟩) rfl hB hM (k := k) (by omega) (by omega) (hY (by omega)).more ha1).mono (fun e w' h => ⟨(), trivial, h.1, ?_⟩)
        rw [if_pos ⟨rfl, by omega⟩]
        exact h.2.pck (by repeat (first | exact Pck.nil _ | exact Pck.refl _ | (apply Pck.cons; focus ((repeat (first | exact Rem.here _ | apply Rem.there)); done)) | refine Pck.skip _ ?_))
    refine lst_not rfl rfl ?_
    refine lst_nil ?_
    refine ex_then ?_
    refine cod_cond_false rfl ?_
    refine cod_skip ?_
    refine ex_block_normal ?_
    refine ex_then ?_
    refine cod_region ?_
    refine lst_int rfl rfl rfl (fun w => bin_add w (wrap_i64' _ (by omega) (by omega))) ?_
    refine lst_move rfl rfl ?_
    refine lst_nil ?_
    refine ex_round' (k + 1) (by omega) (by (try dsimp only); omega) (by repeat (first | exact Sub.nil _ | refine Sub.cons rfl ?_)) (by repeat (first | exact Pck.nil _ | exact Pck.refl _ | (apply Pck.cons; focus ((repeat (first | exact Rem.here _ | apply Rem.there)); done)) | refine Pck.skip _ ?_))
  · skip
    refine cod_exit ?_
    refine ex_then_exit ?_
    refine ex_then_exit ?_
    refine ex_block_exit ?_
    refine ex_then ?_
    refine cod_seq ?_
    refine cod_region ?_
    refine lst_assign rfl rfl ?_
    refine lst_nil ?_
    refine ex_then ?_
    refine cod_ret ?_
    obtain rfl : k = st + 1 := by omega
    rw [show (if st + 1 = st + 1 ∧ p ≤ st * sumN l then T' else T) = (if p ≤ st * sumN l then T' else T) by simp]
    exact ex_ret rfl (fun a w ha => res_one rfl rfl ha) (fun _ _ ha' => ⟨rfl, ha.back (ha'.pck (by repeat (first | exact Pck.nil _ | exact Pck.refl _ | (apply Pck.cons; focus ((repeat (first | exact Rem.here _ | apply Rem.there)); done)) | refine Pck.skip _ ?_)))⟩)

theorem plans1_c {C : Ctx} {fr : List (Nat × Value)} {T : List Res} {a : Act} {w : World} (hC : C.P = Tryd.prog) {l : List Nat} {lA : Option Addr} {lc Lb Sb Wb st p r sb wb : Nat} {rec : Loop} (hB : C.w0.heap.size = C.B) (hM : SawM C.w0 l lA lc Lb Sb Wb st p) {T' : List Res} (hY : p ≤ st * sumN l → YSpecIn C.P C.B C.w0 r (.agg [.int .i64 (st : Int), .int .i64 0, .int .i64 0].toArray) (.blk r (.loop rec) :: .blk sb (.cells [.slice (some ⟨Lb, 0, none⟩) 1 1, .slice (some ⟨Sb, 0, none⟩) 1 1, .int .i64 1, .slice (some ⟨Wb, 0, none⟩) 1 1].toArray 78 (0, 0)) :: .blk wb (.cells [.int .u8 1].toArray 82 (0, 0)) :: T) (.blk r (.loop rec) :: .blk sb (.cells [.slice (some ⟨Lb, 0, none⟩) 1 1, .slice (some ⟨Sb, 0, none⟩) 1 1, .int .i64 1, .slice (some ⟨Wb, 0, none⟩) 1 1].toArray 78 (0, 0)) :: .blk wb (.cells [.int .u8 1].toArray 82 (0, 0)) :: T')) (ha : At C fr (.blk r (.loop rec) :: .blk sb (.cells [.slice (some ⟨Lb, 0, none⟩) 1 1, .slice (some ⟨Sb, 0, none⟩) 1 1, .int .i64 1, .slice (some ⟨Wb, 0, none⟩) 1 1].toArray 78 (0, 0)) :: .blk wb (.cells [.int .u8 1].toArray 82 (0, 0)) :: T) a w) : Calls C.P 68 #[.func (.yield r) #[] #[], .pointer (some ⟨sb, 0, none⟩), .pointer (some ⟨wb, 0, none⟩)] w fun e w' => (∃ v, e = .returned v) ∧ At C fr (.blk r (.loop rec) :: .blk sb (.cells [.slice (some ⟨Lb, 0, none⟩) 1 1, .slice (some ⟨Sb, 0, none⟩) 1 1, .int .i64 1, .slice (some ⟨Wb, 0, none⟩) 1 1].toArray 78 (0, 0)) :: .blk wb (.cells [.int .u8 1].toArray 82 (0, 0)) :: (if p ≤ st * sumN l then T' else T)) a w' := by
  obtain ⟨P, B, w0, N0, ds⟩ := C
  obtain rfl : P = Tryd.prog := hC
  (try dsimp only at hB)
  (try dsimp only at hM)
  (try dsimp only at hY)
  refine enter_in (N := 19) [(0, .func (.yield r) #[] #[]), (1, .pointer (some ⟨sb, 0, none⟩)), (2, .pointer (some ⟨wb, 0, none⟩))] ha Tryd.func68 rfl Tryd.ntmps68 rfl rfl ?_
  refine cod_seq ?_
  refine cod_region ?_
  refine lst_box rfl rfl ?_
  intro b3
  refine lst_nil ?_
  refine ex_then ?_
  refine cod_seq ?_
  refine cod_region ?_
  refine lst_loadN rfl rfl F.agg78 F.ti78 ?_
  refine lst_load rfl rfl F.one82 ?_
  refine lst_fn0 (vs := [_, _]) rfl rfl F.ent69 (fun a w ha => scuts_c l lA lc Lb Sb Wb st p w (hM.later (by rw [hB]; exact ha.below))) ?_
  refine lst_assign rfl rfl ?_
  refine lst_nil ?_
  refine ex_then ?_
  refine cod_seq ?_
  refine cod_region ?_
  refine lst_alloc rfl F.ti166 ?_
  intro b5
  refine lst_nil ?_
  refine ex_then ?_
  refine cod_seq ?_
  refine cod_region ?_
  refine lst_makeFunc (fs := []) (cs := [_, _, _, _]) rfl rfl rfl ?_
  refine lst_store rfl rfl F.ti166 rfl ?_
  refine lst_nil ?_
  refine ex_then ?_
  refine cod_seq ?_
  refine cod_region ?_
  refine lst_move rfl rfl ?_
  refine lst_field_z rfl rfl F.fi78_0 F.ti40 ?_
  refine lst_field_z rfl rfl F.fi40_1 F.ti22 ?_
  refine lst_load rfl rfl F.one22 ?_
  refine lst_fn0 (vs := [_]) rfl rfl F.ent62 (fun a w ha => sum_c (some ⟨Sb, 0, none⟩) 1 [st] (by have := hM.st4; simp [sumN]; omega) (by simp) w (hM.later (by rw [hB]; exact ha.below)).rs) ?_
  refine lst_int rfl rfl rfl bin_leq ?_
  refine lst_nil ?_
  refine ex_then ?_
  refine cod_cond_dec rfl (fun hc0 => ?_) (fun hc0 => ?_)
  · skip
    refine cod_region ?_
    refine lst_load rfl rfl F.one166 ?_
    refine lst_struct (vs := []) (l' := [_, _, _]) rfl rfl F.ti86 F.pl86 (.nil _) rfl ?_
    refine lst_call (X := Unit) (first := []) (cap := [.pointer (some ⟨sb, 0, none⟩), .pointer (some ⟨wb, 0, none⟩), .pointer (some ⟨b3, 0, none⟩), .pointer (some ⟨b5, 0, none⟩)]) (vs := [_, _]) (p := fun _ => True) (val := fun _ => .bool true) (rs := fun _ => .blk b5 (.cells [.func (.func 70) ([] : List Value).toArray [.pointer (some ⟨sb, 0, none⟩), .pointer (some ⟨wb, 0, none⟩), .pointer (some ⟨b3, 0, none⟩), .pointer (some ⟨b5, 0, none⟩)].toArray].toArray 166 (0, 0)) :: .blk b3 (.cells [.func (.yield r) #[] #[]].toArray 164 (0, 0)) :: .blk r (.loop rec) :: .blk sb (.cells [.slice (some ⟨Lb, 0, none⟩) 1 1, .slice (some ⟨Sb, 0, none⟩) 1 1, .int .i64 1, .slice (some ⟨Wb, 0, none⟩) 1 1].toArray 78 (0, 0)) :: .blk wb (.cells [.int .u8 1].toArray 82 (0, 0)) :: (if p ≤ st * sumN l then T' else T)) rfl rfl rfl F.ent70 (fun a w ha => (grow_0 (C := ⟨Tryd.prog, B, w0, _, _⟩) rfl hB hM hY ha).mono (fun e w' h => ⟨(), trivial, h.1, h.2⟩)) (fun _ _ => ?_)
    refine lst_nil ?_
    exact ex_end rfl (fun a w ha => res_none rfl ha) (fun _ _ ha' => ⟨⟨_, rfl⟩, ha.back (ha'.pck (by repeat (first | exact Pck.nil _ | exact Pck.refl _ | (apply Pck.cons; focus ((repeat (first | exact Rem.here _ | apply Rem.there)); done)) | refine Pck.skip _ ?_)))⟩)
  · skip
    exact absurd hc0 (by omega) -- done

end Go.Proofs.YthkbagikmbcphaaDoor.N
namespace Go.Proofs.YthkbagikmbcphaaDoor.N
open Go Go.RowKit Go.Proofs
theorem F.ent58 : Enters Tryd.prog 58 := enters_of Tryd.func58 rfl (by kernel_rfl)
theorem F.ent59 : Enters Tryd.prog 59 := enters_of Tryd.func59 rfl (by kernel_rfl)
theorem F.ent68 : Enters Tryd.prog 68 := enters_of Tryd.func68 rfl (by kernel_rfl)
theorem F.pl111 : Places Tryd.prog 111 [(0, 1), (1, 3), (4, 1), (5, 1), (6, 1)] := .inl ⟨_, Tryd.underlying111, by kernel_rfl⟩
theorem F.pl136 : Places Tryd.prog 136 [(0, 1), (1, 7), (8, 1)] := .inl ⟨_, Tryd.underlying136, by kernel_rfl⟩
theorem F.ti136 : TI Tryd.prog 136 (.agg [.nilFunc, .int .u8 0, .int .i64 0, .int .i64 0, .int .i64 0, .int .i64 0, .int .i64 0, .bool false, .bool false].toArray) 9 72 := TI.of (by kernel_rfl)
theorem crush_y (l : List Nat) (lA : Option Addr) (lc Lb Sb Wb st p : Nat) (hge : p ≤ st * sumN l) (w : World) (hM : SawM w l lA lc Lb Sb Wb st p) : Calls Tryd.prog 41 #[.agg [.slice (some ⟨Lb, 0, none⟩) 1 1, .slice (some ⟨Sb, 0, none⟩) 1 1, .int .i64 1, .slice (some ⟨Wb, 0, none⟩) 1 1].toArray, .int .u8 1] w fun e w' => e = .returned (.agg [.int .u8 1, .int .i64 (st : Int), .int .i64 0, .int .i64 0, .int .i64 (st : Int), .int .i64 ((st * sumN l - p : Nat) : Int), .bool true].toArray) ∧ Grew w w' [] := by
  have hks : st * sumN l ≤ 144 := Nat.le_trans (Nat.mul_le_mul hM.st4 hM.sum36) (by decide)
  refine enter_marks (N := 33) [(0, .agg [.slice (some ⟨Lb, 0, none⟩) 1 1, .slice (some ⟨Sb, 0, none⟩) 1 1, .int .i64 1, .slice (some ⟨Wb, 0, none⟩) 1 1].toArray), (1, .int .u8 1)] Tryd.func41 rfl Tryd.ntmps41 rfl rfl ?_
  refine cod_seq ?_
  refine cod_region ?_
  refine lst_box rfl rfl ?_
  intro b2
  refine lst_box rfl rfl ?_
  intro b3
  refine lst_alloc rfl F.ti111 ?_
  intro b4
  refine lst_nil ?_
  refine ex_then ?_
  refine cod_seq ?_
  refine cod_region ?_
  refine lst_struct (vs := [(0, _)]) (l' := [_, _, _, _, _, _, _, _, _]) rfl rfl F.ti136 F.pl136 (.cons rfl rfl (.nil _)) rfl ?_
  refine lst_alloc rfl F.ti136 ?_
  intro b5
  refine lst_store rfl rfl F.ti136 rfl ?_
  refine lst_nil ?_
  refine ex_then ?_
  refine cod_seq ?_
  refine cod_seq ?_
  refine cod_region ?_
  refine lst_loadN rfl rfl F.agg78 F.ti78 ?_
  refine lst_load rfl rfl F.one82 ?_
  refine lst_fn (X := Nat × Nat) (vs := [_, _]) (p := fun _ => True) (val := fun y => .func (.func 68) ([] : List Value).toArray [.pointer (some ⟨y.1, 0, none⟩), .pointer (some ⟨y.2, 0, none⟩)].toArray) (rs := fun y => [.blk y.2 (.cells [.int .u8 1].toArray 82 (0, 0)), .blk y.1 (.cells [.slice (some ⟨Lb, 0, none⟩) 1 1, .slice (some ⟨Sb, 0, none⟩) 1 1, .int .i64 1, .slice (some ⟨Wb, 0, none⟩) 1 1].toArray 78 (0, 0))]) rfl rfl F.ent58 (fun a w ha => (splans_c Lb Sb Wb w).mono (fun e w' h => by obtain ⟨b2, b3, h1, h2⟩ := h; exact ⟨(b2, b3), trivial, h1, h2⟩)) ?_
  rintro ⟨sb, wb⟩ -
  dsimp only [List.cons_append, List.nil_append]
  refine lst_nil ?_
  refine ex_then ?_
  refine cod_block ?_
  refine cod_range_in (lb := [.pointer (some ⟨sb, 0, none⟩), .pointer (some ⟨wb, 0, none⟩)]) (.blk wb (.cells [.int .u8 1].toArray 82 (0, 0)) :: .blk sb (.cells [.slice (some ⟨Lb, 0, none⟩) 1 1, .slice (some ⟨Sb, 0, none⟩) 1 1, .int .i64 1, .slice (some ⟨Wb, 0, none⟩) 1 1].toArray 78 (0, 0)) :: .blk b5 (.cells [.func (.func 57) ([] : List Value).toArray ([] : List Value).toArray, .int .u8 1, .int .i64 (st : Int), .int .i64 0, .int .i64 0, .int .i64 (st : Int), .int .i64 ((st * sumN l - p : Nat) : Int), .bool true, .bool true].toArray 136 (0, 0)) :: .blk b4 (.cells [.int .u8 0, .int .i64 0, .int .i64 0, .int .i64 0, .int .i64 0, .int .i64 0, .bool false].toArray 111 (0, 0)) :: .blk b3 (.cells [.int .u8 1].toArray 82 (0, 0)) :: [.blk b2 (.cells [.slice (some ⟨Lb, 0, none⟩) 1 1, .slice (some ⟨Sb, 0, none⟩) 1 1, .int .i64 1, .slice (some ⟨Wb, 0, none⟩) 1 1].toArray 78 (0, 0))]) rfl F.ent68 (fun r D rec a w' hst hpe hps has hbo hsz hsl hR => ?_) (fun D => ?_)
  · skip
    have hY : YSpecIn Tryd.prog w.heap.size w r (.agg [.int .i64 (st : Int), .int .i64 0, .int .i64 0].toArray) (.blk r (.loop rec) :: .blk sb (.cells [.slice (some ⟨Lb, 0, none⟩) 1 1, .slice (some ⟨Sb, 0, none⟩) 1 1, .int .i64 1, .slice (some ⟨Wb, 0, none⟩) 1 1].toArray 78 (0, 0)) :: .blk wb (.cells [.int .u8 1].toArray 82 (0, 0)) :: .blk D (.deferred (some [])) :: .blk b5 (.cells [.func (.func 57) ([] : List Value).toArray ([] : List Value).toArray, .int .u8 0, .int .i64 0, .int .i64 0, .int .i64 0, .int .i64 0, .int .i64 0, .bool false, .bool false].toArray 136 (0, 0)) :: .blk b4 (.cells [.int .u8 0, .int .i64 0, .int .i64 0, .int .i64 0, .int .i64 0, .int .i64 0, .bool false].toArray 111 (0, 0)) :: .blk b3 (.cells [.int .u8 1].toArray 82 (0, 0)) :: [.blk b2 (.cells [.slice (some ⟨Lb, 0, none⟩) 1 1, .slice (some ⟨Sb, 0, none⟩) 1 1, .int .i64 1, .slice (some ⟨Wb, 0, none⟩) 1 1].toArray 78 (0, 0))]) (.blk r (.loop rec) :: .blk sb (.cells [.slice (some ⟨Lb, 0, none⟩) 1 1, .slice (some ⟨Sb, 0, none⟩) 1 1, .int .i64 1, .slice (some ⟨Wb, 0, none⟩) 1 1].toArray 78 (0, 0)) :: .blk wb (.cells [.int .u8 1].toArray 82 (0, 0)) :: .blk D (.deferred (some [])) :: .blk b5 (.cells [.func (.func 57) ([] : List Value).toArray ([] : List Value).toArray, .int .u8 1, .int .i64 (st : Int), .int .i64 0, .int .i64 0, .int .i64 (st : Int), .int .i64 ((st * sumN l - p : Nat) : Int), .bool true, .bool true].toArray 136 (0, 0)) :: .blk b4 (.cells [.int .u8 0, .int .i64 0, .int .i64 0, .int .i64 0, .int .i64 0, .int .i64 0, .bool false].toArray 111 (0, 0)) :: .blk b3 (.cells [.int .u8 1].toArray 82 (0, 0)) :: [.blk b2 (.cells [.slice (some ⟨Lb, 0, none⟩) 1 1, .slice (some ⟨Sb, 0, none⟩) 1 1, .int .i64 1, .slice (some ⟨Wb, 0, none⟩) 1 1].toArray 78 (0, 0))]) := by
      intro N ds fr hp ay wy hay
      have ha1 : At ⟨Tryd.prog, w.heap.size, w, N, ds⟩ fr (.blk r (.loop rec) :: .blk sb (.cells [.slice (some ⟨Lb, 0, none⟩) 1 1, .slice (some ⟨Sb, 0, none⟩) 1 1, .int .i64 1, .slice (some ⟨Wb, 0, none⟩) 1 1].toArray 78 (0, 0)) :: .blk wb (.cells [.int .u8 1].toArray 82 (0, 0)) :: .blk D (.deferred (some [])) :: .blk b5 (.cells [.func (.func 57) ([] : List Value).toArray ([] : List Value).toArray, .int .u8 0, .int .i64 0, .int .i64 0, .int .i64 0, .int .i64 0, .int .i64 0, .bool false, .bool false].toArray 136 (0, 0)) :: .blk b4 (.cells [.int .u8 0, .int .i64 0, .int .i64 0, .int .i64 0, .int .i64 0, .int .i64 0, .bool false].toArray 111 (0, 0)) :: .blk b3 (.cells [.int .u8 1].toArray 82 (0, 0)) :: .blk b2 (.cells [.slice (some ⟨Lb, 0, none⟩) 1 1, .slice (some ⟨Sb, 0, none⟩) 1 1, .int .i64 1, .slice (some ⟨Wb, 0, none⟩) 1 1].toArray 78 (0, 0)) :: hp) ay wy := hay.permed (by simpa using (List.perm_append_comm (l₁ := hp) (l₂ := .blk r (.loop rec) :: .blk sb (.cells [.slice (some ⟨Lb, 0, none⟩) 1 1, .slice (some ⟨Sb, 0, none⟩) 1 1, .int .i64 1, .slice (some ⟨Wb, 0, none⟩) 1 1].toArray 78 (0, 0)) :: .blk wb (.cells [.int .u8 1].toArray 82 (0, 0)) :: .blk D (.deferred (some [])) :: .blk b5 (.cells [.func (.func 57) ([] : List Value).toArray ([] : List Value).toArray, .int .u8 0, .int .i64 0, .int .i64 0, .int .i64 0, .int .i64 0, .int .i64 0, .bool false, .bool false].toArray 136 (0, 0)) :: .blk b4 (.cells [.int .u8 0, .int .i64 0, .int .i64 0, .int .i64 0, .int .i64 0, .int .i64 0, .bool false].toArray 111 (0, 0)) :: .blk b3 (.cells [.int .u8 1].toArray 82 (0, 0)) :: [.blk b2 (.cells [.slice (some ⟨Lb, 0, none⟩) 1 1, .slice (some ⟨Sb, 0, none⟩) 1 1, .int .i64 1, .slice (some ⟨Wb, 0, none⟩) 1 1].toArray 78 (0, 0))])))
      refine yield_in (X := Nat) (N := 33) (frC := _) (frB := fun b6 => (6, .pointer (some ⟨b6, 0, none⟩)) :: [(2, .pointer (some ⟨b2, 0, none⟩)), (3, .pointer (some ⟨b3, 0, none⟩)), (4, .pointer (some ⟨b4, 0, none⟩)), (5, .pointer (some ⟨b5, 0, none⟩))]) (hp1 := fun b6 => .blk b6 (.cells [.int .i64 (st : Int), .int .i64 0, .int .i64 0].toArray 86 (0, 0)) :: .blk sb (.cells [.slice (some ⟨Lb, 0, none⟩) 1 1, .slice (some ⟨Sb, 0, none⟩) 1 1, .int .i64 1, .slice (some ⟨Wb, 0, none⟩) 1 1].toArray 78 (0, 0)) :: .blk wb (.cells [.int .u8 1].toArray 82 (0, 0)) :: .blk D (.deferred (some [])) :: .blk b5 (.cells [.func (.func 57) ([] : List Value).toArray ([] : List Value).toArray, .int .u8 0, .int .i64 0, .int .i64 0, .int .i64 0, .int .i64 0, .int .i64 0, .bool false, .bool false].toArray 136 (0, 0)) :: .blk b4 (.cells [.int .u8 0, .int .i64 0, .int .i64 0, .int .i64 0, .int .i64 0, .int .i64 0, .bool false].toArray 111 (0, 0)) :: .blk b3 (.cells [.int .u8 1].toArray 82 (0, 0)) :: .blk b2 (.cells [.slice (some ⟨Lb, 0, none⟩) 1 1, .slice (some ⟨Sb, 0, none⟩) 1 1, .int .i64 1, .slice (some ⟨Wb, 0, none⟩) 1 1].toArray 78 (0, 0)) :: hp) ha1 hst hps hsz rfl hsl ?_ ?_
      · intro K hK
        rw [has]
        refine codR_region (fun _ _ h => h) (by rfl) ?_
        refine lst_alloc rfl F.ti86 ?_
        intro b6
        refine lst_store rfl rfl F.ti86 rfl ?_
        refine lst_nil ?_
        exact fun a w ha => hK b6 a w ((ha.drop_slots (by repeat (first | exact Sub.nil _ | refine Sub.cons rfl ?_))).pck (by repeat (first | exact Pck.nil _ | exact Pck.refl _ | (apply Pck.cons; focus ((repeat (first | exact Rem.here _ | apply Rem.there)); done)) | refine Pck.skip _ ?_)))
      · intro b6
        refine codR_of_eq hbo ?_
        refine codR_block ?_
        refine codR_seq ?_
        refine codR_region (fun _ _ h => h) (by rfl) ?_
        refine lst_loadN rfl rfl F.agg78 F.ti78 ?_
        refine lst_load rfl rfl F.one82 ?_
        refine lst_loadN rfl rfl F.agg86 F.ti86 ?_
        refine lst_fn0 (vs := [_, _, _]) rfl rfl F.ent45 (fun a w ha => splan_c l lA lc Lb Sb Wb st p st hM.st4 hks w (hM.later ha.below)) ?_
        refine lst_alloc rfl F.ti88 ?_
        intro b7
        refine lst_store rfl rfl F.ti88 rfl ?_
        refine lst_nil ?_
        refine exR_then ?_
        refine codR_begin [.b b5] F.follows 9 rfl [false, false, false, false, false, false, false, false, false] rfl (by rfl) ?_
        refine any_take (listed' := [true, false, false, false, false, false, false, false, false].toArray) 0 rfl rfl rfl (by kernel_rfl) (by kernel_rfl) (by kernel_rfl) (by repeat (first | exact List.Sublist.refl _ | exact List.nil_sublist _ | refine List.Sublist.cons_cons _ ?_ | refine List.Sublist.cons _ ?_)) (yld_load rfl F.one82) rfl ?_
        refine any_take (listed' := [true, true, false, false, false, false, false, false, false].toArray) 1 rfl rfl rfl (by kernel_rfl) (by kernel_rfl) (by kernel_rfl) (by repeat (first | exact List.Sublist.refl _ | exact List.nil_sublist _ | refine List.Sublist.cons_cons _ ?_ | refine List.Sublist.cons _ ?_)) (yld_loadN rfl F.agg86 F.ti86) rfl ?_
        refine any_take (listed' := [true, true, true, false, false, false, false, false, false].toArray) 2 rfl rfl rfl (by kernel_rfl) (by kernel_rfl) (by kernel_rfl) (by repeat (first | exact List.Sublist.refl _ | exact List.nil_sublist _ | refine List.Sublist.cons_cons _ ?_ | refine List.Sublist.cons _ ?_)) (yld_field_z rfl F.fi88_0 F.ti86) rfl ?_
        refine any_take (listed' := [true, true, true, true, false, false, false, false, false].toArray) 3 rfl rfl rfl (by kernel_rfl) (by kernel_rfl) (by kernel_rfl) (by repeat (first | exact List.Sublist.refl _ | exact List.nil_sublist _ | refine List.Sublist.cons_cons _ ?_ | refine List.Sublist.cons _ ?_)) (yld_loadN rfl F.agg86 F.ti86) rfl ?_
        refine any_take (listed' := [true, true, true, true, false, true, false, false, false].toArray) 5 rfl rfl rfl (by kernel_rfl) (by kernel_rfl) (by kernel_rfl) (by repeat (first | exact List.Sublist.refl _ | exact List.nil_sublist _ | refine List.Sublist.cons_cons _ ?_ | refine List.Sublist.cons _ ?_)) (yld_loadN rfl F.agg88 F.ti88) rfl ?_
        refine any_one (listed' := [true, true, true, true, true, true, false, false, false].toArray) 4 (by kernel_rfl) rfl rfl ?_
        refine lst_fn0 (v := .int .i64 (st : Int)) (vs := [_]) rfl rfl F.ent48 (fun a' w ha => (lsum_c st 0 0 (by have := hM.st4; omega) (by omega) (by omega) w).mono (fun e w' h => ⟨by rw [h.1, show sumN [st, 0, 0] = st by simp [sumN]], h.2⟩)) ?_
        refine lst_nil ?_
        refine any_next (by repeat (first | exact List.Sublist.refl _ | exact List.nil_sublist _ | refine List.Sublist.cons_cons _ ?_ | refine List.Sublist.cons _ ?_)) ?_
        refine any_one (listed' := [true, true, true, true, true, true, true, false, false].toArray) 6 (by kernel_rfl) rfl rfl ?_
        refine lst_fn0 (v := .int .i64 ((st * sumN l - p : Nat) : Int)) (vs := [_]) rfl rfl F.ent29 (fun a w ha => (sleft_c st (st * sumN l) p (by omega) hM.p60 w).mono (fun e w' h => ⟨by rw [h.1, show ((st * sumN l : Nat) : Int) - (p : Int) = (((st * sumN l - p : Nat) : Nat) : Int) by omega], h.2⟩)) ?_
        refine lst_nil ?_
        refine any_next (by repeat (first | exact List.Sublist.refl _ | exact List.nil_sublist _ | refine List.Sublist.cons_cons _ ?_ | refine List.Sublist.cons _ ?_)) ?_
        refine any_take (listed' := [true, true, true, true, true, true, true, true, false].toArray) 7 rfl rfl rfl (by kernel_rfl) (by kernel_rfl) (by kernel_rfl) (by repeat (first | exact List.Sublist.refl _ | exact List.nil_sublist _ | refine List.Sublist.cons_cons _ ?_ | refine List.Sublist.cons _ ?_)) (yld_struct (vs := [(0, _), (1, _), (2, _), (3, _), (4, _)]) (l' := [_, _, _, _, _, _, _]) rfl F.ti111 F.pl111 (.cons rfl rfl (.cons rfl rfl (.cons rfl rfl (.cons rfl rfl (.cons rfl rfl (.nil _)))))) rfl) rfl ?_
        refine any_one (listed' := [true, true, true, true, true, true, true, true, true].toArray) 8 (by kernel_rfl) rfl rfl ?_
        refine lst_call_pul (X := Value) (vs := [_, _]) b5 (fun _ => (.cells [.func (.func 57) ([] : List Value).toArray ([] : List Value).toArray, .int .u8 1, .int .i64 (st : Int), .int .i64 0, .int .i64 0, .int .i64 (st : Int), .int .i64 ((st * sumN l - p : Nat) : Int), .bool true, .bool true].toArray 136 (0, 0))) (fun _ => True) (fun v => v) rfl rfl F.ent59 (fun a w ha => (stake_c (C := ⟨Tryd.prog, _, _, _, _⟩) rfl (k := st) (m := st * sumN l - p) ha).mono (fun e w' h => by obtain ⟨⟨v, h1⟩, h2⟩ := h; exact ⟨v, trivial, h1, h2⟩)) ?_
        rintro v25 -
        refine lst_nil ?_
        refine any_next (by repeat (first | exact List.Sublist.refl _ | exact List.nil_sublist _ | refine List.Sublist.cons_cons _ ?_ | refine List.Sublist.cons _ ?_)) ?_
        refine any_done rfl (by kernel_rfl) ?_
        refine ex_block_normal ?_
        refine ex_pck (hp' := .blk r (.loop { rec with state := .busy }) :: .blk sb (.cells [.slice (some ⟨Lb, 0, none⟩) 1 1, .slice (some ⟨Sb, 0, none⟩) 1 1, .int .i64 1, .slice (some ⟨Wb, 0, none⟩) 1 1].toArray 78 (0, 0)) :: .blk wb (.cells [.int .u8 1].toArray 82 (0, 0)) :: .blk D (.deferred (some [])) :: .blk b5 (.cells [.func (.func 57) ([] : List Value).toArray ([] : List Value).toArray, .int .u8 1, .int .i64 (st : Int), .int .i64 0, .int .i64 0, .int .i64 (st : Int), .int .i64 ((st * sumN l - p : Nat) : Int), .bool true, .bool true].toArray 136 (0, 0)) :: .blk b4 (.cells [.int .u8 0, .int .i64 0, .int .i64 0, .int .i64 0, .int .i64 0, .int .i64 0, .bool false].toArray 111 (0, 0)) :: .blk b3 (.cells [.int .u8 1].toArray 82 (0, 0)) :: .blk b2 (.cells [.slice (some ⟨Lb, 0, none⟩) 1 1, .slice (some ⟨Sb, 0, none⟩) 1 1, .int .i64 1, .slice (some ⟨Wb, 0, none⟩) 1 1].toArray 78 (0, 0)) :: hp) (by repeat (first | exact Pck.nil _ | exact Pck.refl _ | (apply Pck.cons; focus ((repeat (first | exact Rem.here _ | apply Rem.there)); done)) | refine Pck.skip _ ?_)) ?_
        refine round_goes_in hst hpe (fun a w ha => ⟨rfl, ?_⟩)
        exact (hay.back ha).permed (by simpa using (List.perm_append_comm (l₁ := .blk r (.loop rec) :: .blk sb (.cells [.slice (some ⟨Lb, 0, none⟩) 1 1, .slice (some ⟨Sb, 0, none⟩) 1 1, .int .i64 1, .slice (some ⟨Wb, 0, none⟩) 1 1].toArray 78 (0, 0)) :: .blk wb (.cells [.int .u8 1].toArray 82 (0, 0)) :: .blk D (.deferred (some [])) :: .blk b5 (.cells [.func (.func 57) ([] : List Value).toArray ([] : List Value).toArray, .int .u8 1, .int .i64 (st : Int), .int .i64 0, .int .i64 0, .int .i64 (st : Int), .int .i64 ((st * sumN l - p : Nat) : Int), .bool true, .bool true].toArray 136 (0, 0)) :: .blk b4 (.cells [.int .u8 0, .int .i64 0, .int .i64 0, .int .i64 0, .int .i64 0, .int .i64 0, .bool false].toArray 111 (0, 0)) :: .blk b3 (.cells [.int .u8 1].toArray 82 (0, 0)) :: [.blk b2 (.cells [.slice (some ⟨Lb, 0, none⟩) 1 1, .slice (some ⟨Sb, 0, none⟩) 1 1, .int .i64 1, .slice (some ⟨Wb, 0, none⟩) 1 1].toArray 78 (0, 0))]) (l₂ := hp)))
    refine (plans1_c (C := ⟨Tryd.prog, w.heap.size, w, 33, []⟩) (T' := .blk D (.deferred (some [])) :: .blk b5 (.cells [.func (.func 57) ([] : List Value).toArray ([] : List Value).toArray, .int .u8 1, .int .i64 (st : Int), .int .i64 0, .int .i64 0, .int .i64 (st : Int), .int .i64 ((st * sumN l - p : Nat) : Int), .bool true, .bool true].toArray 136 (0, 0)) :: .blk b4 (.cells [.int .u8 0, .int .i64 0, .int .i64 0, .int .i64 0, .int .i64 0, .int .i64 0, .bool false].toArray 111 (0, 0)) :: .blk b3 (.cells [.int .u8 1].toArray 82 (0, 0)) :: [.blk b2 (.cells [.slice (some ⟨Lb, 0, none⟩) 1 1, .slice (some ⟨Sb, 0, none⟩) 1 1, .int .i64 1, .slice (some ⟨Wb, 0, none⟩) 1 1].toArray 78 (0, 0))]) rfl rfl hM (fun _ => hY) (hR.pck (hp' := .blk r (.loop rec) :: .blk sb (.cells [.slice (some ⟨Lb, 0, none⟩) 1 1, .slice (some ⟨Sb, 0, none⟩) 1 1, .int .i64 1, .slice (some ⟨Wb, 0, none⟩) 1 1].toArray 78 (0, 0)) :: .blk wb (.cells [.int .u8 1].toArray 82 (0, 0)) :: .blk D (.deferred (some [])) :: .blk b5 (.cells [.func (.func 57) ([] : List Value).toArray ([] : List Value).toArray, .int .u8 0, .int .i64 0, .int .i64 0, .int .i64 0, .int .i64 0, .int .i64 0, .bool false, .bool false].toArray 136 (0, 0)) :: .blk b4 (.cells [.int .u8 0, .int .i64 0, .int .i64 0, .int .i64 0, .int .i64 0, .int .i64 0, .bool false].toArray 111 (0, 0)) :: .blk b3 (.cells [.int .u8 1].toArray 82 (0, 0)) :: [.blk b2 (.cells [.slice (some ⟨Lb, 0, none⟩) 1 1, .slice (some ⟨Sb, 0, none⟩) 1 1, .int .i64 1, .slice (some ⟨Wb, 0, none⟩) 1 1].toArray 78 (0, 0))]) (by repeat (first | exact Pck.nil _ | exact Pck.refl _ | (apply Pck.cons; focus ((repeat (first | exact Rem.here _ | apply Rem.there)); done)) | refine Pck.skip _ ?_)))).mono (fun e w2 h => ⟨h.1, ?_⟩)
    have h2 := h.2
    rw [if_pos hge] at h2
    exact h2.pck (by repeat (first | exact Pck.nil _ | exact Pck.refl _ | (apply Pck.cons; focus ((repeat (first | exact Rem.here _ | apply Rem.there)); done)) | refine Pck.skip _ ?_))
  · skip
    refine ex_block_normal ?_
    refine ex_then ?_
    refine cod_seq ?_
    refine cod_seq ?_
    refine cod_region ?_
    refine lst_field_z rfl rfl F.fi136_2 F.ti4 ?_
    refine lst_load rfl rfl F.one4 ?_
    refine lst_not rfl rfl ?_
    refine lst_nil ?_
    refine ex_then ?_
    refine cod_cond_false rfl ?_
    refine cod_skip ?_
    refine ex_then ?_
    refine cod_seq ?_
    refine cod_region ?_
    refine lst_field_z rfl rfl F.fi136_1 F.ti111 ?_
    refine lst_loadN rfl rfl F.agg111 F.ti111 ?_
    refine lst_store rfl rfl F.ti111 rfl ?_
    refine lst_nil ?_
    refine ex_then ?_
    refine cod_ret ?_
    refine ex_marks_ret _ (.inl rfl) (fun a w ha => ⟨_, res_cellN (C := ⟨Tryd.prog, _, _, _, _⟩) (fn := Tryd.f41) rfl rfl F.agg111 F.ti111 rfl ha, rfl, ha.grown (List.nil_sublist _)⟩)

theorem crush_n (l : List Nat) (lA : Option Addr) (lc Lb Sb Wb st p : Nat) (hlt : st * sumN l < p) (w : World) (hM : SawM w l lA lc Lb Sb Wb st p) : Calls Tryd.prog 41 #[.agg [.slice (some ⟨Lb, 0, none⟩) 1 1, .slice (some ⟨Sb, 0, none⟩) 1 1, .int .i64 1, .slice (some ⟨Wb, 0, none⟩) 1 1].toArray, .int .u8 1] w fun e w' => e = .returned (.agg [.int .u8 1, .int .i64 0, .int .i64 0, .int .i64 0, .int .i64 0, .int .i64 0, .bool false].toArray) ∧ Grew w w' [] := by
  have hks : st * sumN l ≤ 144 := Nat.le_trans (Nat.mul_le_mul hM.st4 hM.sum36) (by decide)
  refine enter_marks (N := 33) [(0, .agg [.slice (some ⟨Lb, 0, none⟩) 1 1, .slice (some ⟨Sb, 0, none⟩) 1 1, .int .i64 1, .slice (some ⟨Wb, 0, none⟩) 1 1].toArray), (1, .int .u8 1)] Tryd.func41 rfl Tryd.ntmps41 rfl rfl ?_
  refine cod_seq ?_
  refine cod_region ?_
  refine lst_box rfl rfl ?_
  intro b2
  refine lst_box rfl rfl ?_
  intro b3
  refine lst_alloc rfl F.ti111 ?_
  intro b4
  refine lst_nil ?_
  refine ex_then ?_
  refine cod_seq ?_
  refine cod_region ?_
  refine lst_struct (vs := [(0, _)]) (l' := [_, _, _, _, _, _, _, _, _]) rfl rfl F.ti136 F.pl136 (.cons rfl rfl (.nil _)) rfl ?_
  refine lst_alloc rfl F.ti136 ?_
  intro b5
  refine lst_store rfl rfl F.ti136 rfl ?_
  refine lst_nil ?_
  refine ex_then ?_
  refine cod_seq ?_
  refine cod_seq ?_
  refine cod_region ?_
  refine lst_loadN rfl rfl F.agg78 F.ti78 ?_
  refine lst_load rfl rfl F.one82 ?_
  refine lst_fn (X := Nat × Nat) (vs := [_, _]) (p := fun _ => True) (val := fun y => .func (.func 68) ([] : List Value).toArray [.pointer (some ⟨y.1, 0, none⟩), .pointer (some ⟨y.2, 0, none⟩)].toArray) (rs := fun y => [.blk y.2 (.cells [.int .u8 1].toArray 82 (0, 0)), .blk y.1 (.cells [.slice (some ⟨Lb, 0, none⟩) 1 1, .slice (some ⟨Sb, 0, none⟩) 1 1, .int .i64 1, .slice (some ⟨Wb, 0, none⟩) 1 1].toArray 78 (0, 0))]) rfl rfl F.ent58 (fun a w ha => (splans_c Lb Sb Wb w).mono (fun e w' h => by obtain ⟨b2, b3, h1, h2⟩ := h; exact ⟨(b2, b3), trivial, h1, h2⟩)) ?_
  rintro ⟨sb, wb⟩ -
  dsimp only [List.cons_append, List.nil_append]
  refine lst_nil ?_
  refine ex_then ?_
  refine cod_block ?_
  refine cod_range_in (lb := [.pointer (some ⟨sb, 0, none⟩), .pointer (some ⟨wb, 0, none⟩)]) (.blk wb (.cells [.int .u8 1].toArray 82 (0, 0)) :: .blk sb (.cells [.slice (some ⟨Lb, 0, none⟩) 1 1, .slice (some ⟨Sb, 0, none⟩) 1 1, .int .i64 1, .slice (some ⟨Wb, 0, none⟩) 1 1].toArray 78 (0, 0)) :: .blk b5 (.cells [.func (.func 57) ([] : List Value).toArray ([] : List Value).toArray, .int .u8 0, .int .i64 0, .int .i64 0, .int .i64 0, .int .i64 0, .int .i64 0, .bool false, .bool false].toArray 136 (0, 0)) :: .blk b4 (.cells [.int .u8 0, .int .i64 0, .int .i64 0, .int .i64 0, .int .i64 0, .int .i64 0, .bool false].toArray 111 (0, 0)) :: .blk b3 (.cells [.int .u8 1].toArray 82 (0, 0)) :: [.blk b2 (.cells [.slice (some ⟨Lb, 0, none⟩) 1 1, .slice (some ⟨Sb, 0, none⟩) 1 1, .int .i64 1, .slice (some ⟨Wb, 0, none⟩) 1 1].toArray 78 (0, 0))]) rfl F.ent68 (fun r D rec a w' hst hpe hps has hbo hsz hsl hR => ?_) (fun D => ?_)
  · skip
    refine (plans1_c (C := ⟨Tryd.prog, w.heap.size, w, 33, []⟩) (T' := .blk D (.deferred (some [])) :: .blk b5 (.cells [.func (.func 57) ([] : List Value).toArray ([] : List Value).toArray, .int .u8 1, .int .i64 (st : Int), .int .i64 0, .int .i64 0, .int .i64 (st : Int), .int .i64 ((st * sumN l - p : Nat) : Int), .bool true, .bool true].toArray 136 (0, 0)) :: .blk b4 (.cells [.int .u8 0, .int .i64 0, .int .i64 0, .int .i64 0, .int .i64 0, .int .i64 0, .bool false].toArray 111 (0, 0)) :: .blk b3 (.cells [.int .u8 1].toArray 82 (0, 0)) :: [.blk b2 (.cells [.slice (some ⟨Lb, 0, none⟩) 1 1, .slice (some ⟨Sb, 0, none⟩) 1 1, .int .i64 1, .slice (some ⟨Wb, 0, none⟩) 1 1].toArray 78 (0, 0))]) rfl rfl hM (fun hge => absurd hge (by omega)) (hR.pck (hp' := .blk r (.loop rec) :: .blk sb (.cells [.slice (some ⟨Lb, 0, none⟩) 1 1, .slice (some ⟨Sb, 0, none⟩) 1 1, .int .i64 1, .slice (some ⟨Wb, 0, none⟩) 1 1].toArray 78 (0, 0)) :: .blk wb (.cells [.int .u8 1].toArray 82 (0, 0)) :: .blk D (.deferred (some [])) :: .blk b5 (.cells [.func (.func 57) ([] : List Value).toArray ([] : List Value).toArray, .int .u8 0, .int .i64 0, .int .i64 0, .int .i64 0, .int .i64 0, .int .i64 0, .bool false, .bool false].toArray 136 (0, 0)) :: .blk b4 (.cells [.int .u8 0, .int .i64 0, .int .i64 0, .int .i64 0, .int .i64 0, .int .i64 0, .bool false].toArray 111 (0, 0)) :: .blk b3 (.cells [.int .u8 1].toArray 82 (0, 0)) :: [.blk b2 (.cells [.slice (some ⟨Lb, 0, none⟩) 1 1, .slice (some ⟨Sb, 0, none⟩) 1 1, .int .i64 1, .slice (some ⟨Wb, 0, none⟩) 1 1].toArray 78 (0, 0))]) (by repeat (first | exact Pck.nil _ | exact Pck.refl _ | (apply Pck.cons; focus ((repeat (first | exact Rem.here _ | apply Rem.there)); done)) | refine Pck.skip _ ?_)))).mono (fun e w2 h => ⟨h.1, ?_⟩)
    have h2 := h.2
    rw [if_neg (by omega)] at h2
    exact h2.pck (by repeat (first | exact Pck.nil _ | exact Pck.refl _ | (apply Pck.cons; focus ((repeat (first | exact Rem.here _ | apply Rem.there)); done)) | refine Pck.skip _ ?_))
  · skip
    refine ex_block_normal ?_
    refine ex_then ?_
    refine cod_seq ?_
    refine cod_seq ?_
    refine cod_region ?_
    refine lst_field_z rfl rfl F.fi136_2 F.ti4 ?_
    refine lst_load rfl rfl F.one4 ?_
    refine lst_not rfl rfl ?_
    refine lst_nil ?_
    refine ex_then ?_
    refine cod_cond_true rfl ?_
    refine cod_seq ?_
    refine cod_region ?_
    refine lst_load rfl rfl F.one82 ?_
    refine lst_struct (vs := [(0, _)]) (l' := [_, _, _, _, _, _, _]) rfl rfl F.ti111 F.pl111 (.cons rfl rfl (.nil _)) rfl ?_
    refine lst_store rfl rfl F.ti111 rfl ?_
    refine lst_nil ?_
    refine ex_then ?_
    refine cod_ret ?_
    refine ex_then_ret ?_
    refine ex_marks_ret _ (.inl rfl) (fun a w ha => ⟨_, res_cellN (C := ⟨Tryd.prog, _, _, _, _⟩) (fn := Tryd.f41) rfl rfl F.agg111 F.ti111 rfl ha, rfl, ha.grown (List.nil_sublist _)⟩)

end Go.Proofs.YthkbagikmbcphaaDoor.N
namespace Go.Proofs.YthkbagikmbcphaaDoor.N
open Go Go.RowKit Go.Proofs
theorem res_NNt {C : Ctx} {fr : List (Nat × Value)} {hp : List Res} {a : Act} {w : World} {fn : Func} {u u' t n m n' m' : Nat} {ty ct ty' ct' : TypeId} {z z' v : Value} {l l' : List Value} {b b' : Nat} (h : fn.results = #[.cell u ty, .cell u' ty', .tmp t]) (hu : look fr u = some (.pointer (some ⟨b, 0, none⟩))) (hu' : look fr u' = some (.pointer (some ⟨b', 0, none⟩))) (hv : look fr t = some v) (ht : aggB C.P ty = true) (hi : TI C.P ty z n m) (ht' : aggB C.P ty' = true) (hi' : TI C.P ty' z' n' m')
    [hm : InB b (.cells l.toArray ct (0, 0)) hp] [hm' : InB b' (.cells l'.toArray ct' (0, 0)) hp] (hl : l.length = n) (hl' : l'.length = n') (ha : At C fr hp a w) : (results fn a.tmps).run C.P w = .ok (.tuple #[.agg l.toArray, .agg l'.toArray, v]) w := by
  have h2 := ha.slots u _ hu
  have h2' := ha.slots u' _ hu'
  have h3 := ha.slots t _ hv
  have e1 := run_loadVar_blk ha ht hi hl (ct := ct) (b := b)
  have e2 := run_loadVar_blk ha ht' hi' hl' (ct := ct') (b := b')
  simp only [results, h, Array.getD_eq_getD_getElem?] at h2 h2' h3 ⊢
  simp [h2, h2', h3, run_asAddr, e1, e2]
/-- The saw that is made of a loaf. -/
theorem At.sawM {C : Ctx} {fr : List (Nat × Value)} {hp : List Res} {a : Act} {w : World} (ha : At C fr hp a w) {l : List Nat} {lA : Option Addr} {lc Lb Sb Wb st p c1 c2 c3 : Nat}
    [h1 : InB Lb (.cells [.slice lA l.length lc].toArray c1 (0, 0)) hp] [h2 : InB Sb (.cells [.int .i64 (st : Int)].toArray c2 (0, 0)) hp] [h3 : InB Wb (.cells [.int .i64 1, .int .i64 (-1), .int .i64 (p : Int), .int .i64 0].toArray c3 (0, 0)) hp]
    (rl : RdL ncell 1 w lA l) (len1 : 1 ≤ l.length) (len4 : l.length ≤ 4) (low : ∀ (i : Nat) x, l[i]? = some x → 1 ≤ x) (high : ∀ (i : Nat) x, l[i]? = some x → x ≤ 9) (desc : ∀ (i : Nat) x y, l[i]? = some x → l[i + 1]? = some y → y ≤ x)
    (st1 : 1 ≤ st) (st4 : st ≤ 4) (p1 : 1 ≤ p) (p60 : p ≤ 60) (least : (st - 1) * sumN l < p) : SawM w l lA lc Lb Sb Wb st p :=
  ⟨len1, len4, low, high, desc, st1, st4, p1, p60, least, rl, cell_of_blk (ha.mem_blk h1.mem) rfl, cell_of_blk (ha.mem_blk h2.mem) rfl, fun j u hj => by
    rw [Nat.zero_add]
    exact cell_of_blk (ha.mem_blk h3.mem) (by simpa using hj)⟩
end Go.Proofs.YthkbagikmbcphaaDoor.N
