/- Parts of the walk of the law TopCrushed: T3, TopC, T4, T5, T6, Sx9, AsT, AsU. -/
import Derived.Test.YthkbagikmbcphaaDoorSTopCrushed02
import Derived.Test.YthkbagikmbcphaaDoorProg
import Derived.Test.YthkbagikmbcphaaDoorSTopCrushed00
import Derived.Test.YthkbagikmbcphaaDoorSTopCrushed01
import Derived.Deep.LoopGhost
import Derived.DeepKeys3
import Derived.OrdersHeld
import Derived.ScopeJumps
import Derived.WalkKit
import Derived.WalkLawsBesides
import Derived.LaidEql
import Derived.Stop.Asserts
import Derived.RowKitTokens
namespace Go.Proofs.YthkbagikmbcphaaDoor.N
open Go Go.RowKit Go.Proofs
theorem F.agg56 : aggB Tryd.prog 56 = true := by unfold aggB; rw [Tryd.underlying56]
theorem F.agg59 : aggB Tryd.prog 59 = true := by unfold aggB; rw [Tryd.underlying59]
theorem F.ent31 : Enters Tryd.prog 31 := enters_of Tryd.func31 rfl (by kernel_rfl)
theorem F.ent49 : Enters Tryd.prog 49 := enters_of Tryd.func49 rfl (by kernel_rfl)
theorem F.ent50 : Enters Tryd.prog 50 := enters_of Tryd.func50 rfl (by kernel_rfl)
theorem F.fi28_0 : FI Tryd.prog 28 0 25 0 := ⟨_, _, Tryd.underlying28, rfl, rfl, rfl⟩
theorem F.fi28_1 : FI Tryd.prog 28 1 26 1 := ⟨_, _, Tryd.underlying28, rfl, rfl, rfl⟩
theorem F.fi33_0 : FI Tryd.prog 33 0 3 0 := ⟨_, _, Tryd.underlying33, rfl, rfl, rfl⟩
theorem F.fi33_1 : FI Tryd.prog 33 1 3 1 := ⟨_, _, Tryd.underlying33, rfl, rfl, rfl⟩
theorem F.fi56_0 : FI Tryd.prog 56 0 3 0 := ⟨_, _, Tryd.underlying56, rfl, rfl, rfl⟩
theorem F.fi56_1 : FI Tryd.prog 56 1 3 1 := ⟨_, _, Tryd.underlying56, rfl, rfl, rfl⟩
theorem F.fi56_2 : FI Tryd.prog 56 2 33 2 := ⟨_, _, Tryd.underlying56, rfl, rfl, rfl⟩
theorem F.fi59_0 : FI Tryd.prog 59 0 3 0 := ⟨_, _, Tryd.underlying59, rfl, rfl, rfl⟩
theorem F.fi59_1 : FI Tryd.prog 59 1 3 1 := ⟨_, _, Tryd.underlying59, rfl, rfl, rfl⟩
theorem F.fi59_2 : FI Tryd.prog 59 2 3 2 := ⟨_, _, Tryd.underlying59, rfl, rfl, rfl⟩
theorem F.fi59_3 : FI Tryd.prog 59 3 3 3 := ⟨_, _, Tryd.underlying59, rfl, rfl, rfl⟩
theorem F.one25 : One Tryd.prog 25 := ⟨by unfold aggB; rw [Tryd.underlying25], by rw [Tryd.underlying25]; simp⟩
theorem F.one26 : One Tryd.prog 26 := ⟨by unfold aggB; rw [Tryd.underlying26], by rw [Tryd.underlying26]; simp⟩
theorem F.ti25 : TI Tryd.prog 25 (.slice none 0 0) 1 24 := TI.of (by kernel_rfl)
theorem F.ti26 : TI Tryd.prog 26 (.slice none 0 0) 1 24 := TI.of (by kernel_rfl)
theorem F.ti33 : TI Tryd.prog 33 (.agg [.int .i64 0, .int .i64 0].toArray) 2 16 := TI.of (by kernel_rfl)
theorem F.ti56 : TI Tryd.prog 56 (.agg [.int .i64 0, .int .i64 0, .int .i64 0, .int .i64 0].toArray) 4 32 := TI.of (by kernel_rfl)
theorem F.ti59 : TI Tryd.prog 59 (.agg [.int .i64 0, .int .i64 0, .int .i64 0, .int .i64 0].toArray) 4 32 := TI.of (by kernel_rfl)
theorem Check_c (vA rA : Option Addr) (vc rc : Nat) (vs : List Vs) (rs : List Rd) (hn1 : 1 ≤ vs.length) (hn6 : vs.length ≤ 6) (hr6 : rs.length ≤ 6) (hv : ∀ (i : Nat) x, vs[i]? = some x → -1 ≤ x.fr ∧ x.fr < (i : Int) ∧ x.room ≤ 40 ∧ x.lo ≤ x.hi ∧ x.hi ≤ 20) (hr : ∀ (i : Nat) x, rs[i]? = some x → x.v < vs.length ∧ x.sc ≤ 2 ∧ x.sh ≤ 60 ∧ x.er ≤ 9) (w : World) (hA : RdL Vs.cells 4 w vA vs) (hB : RdL Rd.cells 4 w rA rs) : Calls Tryd.prog 30 #[.agg [.slice vA vs.length vc, .slice rA rs.length rc].toArray] w fun e w' => e = .returned (.int .i64 0) ∧ Grew w w' [] := by
  refine enter (N := 125) [(0, .agg [.slice vA vs.length vc, .slice rA rs.length rc].toArray)] Tryd.func30 rfl Tryd.ntmps30 rfl rfl ?_
  refine cod_seq ?_
  refine cod_region ?_
  refine lst_box rfl rfl ?_
  intro b1
  refine lst_assign rfl rfl ?_
  refine lst_nil ?_
  refine ex_then ?_
  refine cod_seq ?_
  refine cod_seq ?_
  refine any_begin [] F.follows 13 rfl [false, false, false, false, false, false, false, false, false, false, false, false, false] rfl ?_
  refine any_take (listed' := [true, false, false, false, false, false, false, false, false, false, false, false, false].toArray) 0 rfl rfl rfl (by kernel_rfl) (by kernel_rfl) (by kernel_rfl) (by repeat (first | exact List.Sublist.refl _ | exact List.nil_sublist _ | refine List.Sublist.cons_cons _ ?_ | refine List.Sublist.cons _ ?_)) (yld_field_z rfl F.fi28_0 F.ti25) rfl ?_
  refine any_take (listed' := [true, true, false, false, false, false, false, false, false, false, false, false, false].toArray) 1 rfl rfl rfl (by kernel_rfl) (by kernel_rfl) (by kernel_rfl) (by repeat (first | exact List.Sublist.refl _ | exact List.nil_sublist _ | refine List.Sublist.cons_cons _ ?_ | refine List.Sublist.cons _ ?_)) (yld_load rfl F.one25) rfl ?_
  refine any_take (listed' := [true, true, true, false, false, false, false, false, false, false, false, false, false].toArray) 2 rfl rfl rfl (by kernel_rfl) (by kernel_rfl) (by kernel_rfl) (by repeat (first | exact List.Sublist.refl _ | exact List.nil_sublist _ | refine List.Sublist.cons_cons _ ?_ | refine List.Sublist.cons _ ?_)) (yld_len rfl Tryd.underlying25) rfl ?_
  refine any_take (listed' := [true, true, true, true, false, false, false, false, false, false, false, false, false].toArray) 3 rfl rfl rfl (by kernel_rfl) (by kernel_rfl) (by kernel_rfl) (by repeat (first | exact List.Sublist.refl _ | exact List.nil_sublist _ | refine List.Sublist.cons_cons _ ?_ | refine List.Sublist.cons _ ?_)) (yld_int rfl rfl bin_gtr) rfl ?_
  refine any_take (listed' := [true, true, true, true, false, true, false, false, false, false, false, false, false].toArray) 5 rfl rfl rfl (by kernel_rfl) (by kernel_rfl) (by kernel_rfl) (by repeat (first | exact List.Sublist.refl _ | exact List.nil_sublist _ | refine List.Sublist.cons_cons _ ?_ | refine List.Sublist.cons _ ?_)) (yld_field_z rfl F.fi28_0 F.ti25) rfl ?_
  refine any_take (listed' := [true, true, true, true, false, true, true, false, false, false, false, false, false].toArray) 6 rfl rfl rfl (by kernel_rfl) (by kernel_rfl) (by kernel_rfl) (by repeat (first | exact List.Sublist.refl _ | exact List.nil_sublist _ | refine List.Sublist.cons_cons _ ?_ | refine List.Sublist.cons _ ?_)) (yld_load rfl F.one25) rfl ?_
  refine any_take (listed' := [true, true, true, true, false, true, true, true, false, false, false, false, false].toArray) 7 rfl rfl rfl (by kernel_rfl) (by kernel_rfl) (by kernel_rfl) (by repeat (first | exact List.Sublist.refl _ | exact List.nil_sublist _ | refine List.Sublist.cons_cons _ ?_ | refine List.Sublist.cons _ ?_)) (yld_len rfl Tryd.underlying25) rfl ?_
  refine any_take (listed' := [true, true, true, true, false, true, true, true, true, false, false, false, false].toArray) 8 rfl rfl rfl (by kernel_rfl) (by kernel_rfl) (by kernel_rfl) (by repeat (first | exact List.Sublist.refl _ | exact List.nil_sublist _ | refine List.Sublist.cons_cons _ ?_ | refine List.Sublist.cons _ ?_)) (yld_int rfl rfl bin_leq) rfl ?_
  refine any_one (listed' := [true, true, true, true, true, true, true, true, true, false, false, false, false].toArray) 4 (by kernel_rfl) rfl rfl ?_
  refine lst_fn0 (v := .int .i64 0) (vs := [_, _]) rfl rfl F.ent50 (fun a w ha => (unless_c _ 7 w).mono (fun e w' h => ⟨h.1.trans (by rw [if_pos (by simp <;> omega)]), h.2⟩)) ?_
  refine lst_nil ?_
  refine any_next (by repeat (first | exact List.Sublist.refl _ | exact List.nil_sublist _ | refine List.Sublist.cons_cons _ ?_ | refine List.Sublist.cons _ ?_)) ?_
  refine any_one (listed' := [true, true, true, true, true, true, true, true, true, true, false, false, false].toArray) 9 (by kernel_rfl) rfl rfl ?_
  refine lst_fn0 (v := .int .i64 0) (vs := [_, _]) rfl rfl F.ent50 (fun a w ha => (unless_c _ 6 w).mono (fun e w' h => ⟨h.1.trans (by rw [if_pos (by simp <;> omega)]), h.2⟩)) ?_
  refine lst_nil ?_
  refine any_next (by repeat (first | exact List.Sublist.refl _ | exact List.nil_sublist _ | refine List.Sublist.cons_cons _ ?_ | refine List.Sublist.cons _ ?_)) ?_
  refine any_one (listed' := [true, true, true, true, true, true, true, true, true, true, true, false, false].toArray) 10 (by kernel_rfl) rfl rfl ?_
  refine lst_lit (vs := [(0, _), (1, _)]) rfl rfl Tryd.underlying150 F.ti34 rfl rfl rfl ?_
  intro b25
  refine lst_nil ?_
  refine any_next (by repeat (first | exact List.Sublist.refl _ | exact List.nil_sublist _ | refine List.Sublist.cons_cons _ ?_ | refine List.Sublist.cons _ ?_)) ?_
  refine any_one (listed' := [true, true, true, true, true, true, true, true, true, true, true, true, false].toArray) 11 (by kernel_rfl) rfl rfl ?_
  refine lst_fn0 (v := .int .i64 0) (vs := [_]) rfl rfl F.ent49 (fun a w ha => first_c (some ⟨b25, 0, none⟩) 2 [0, 0] (by simp) (by decide) w (blk_reads ha (cells := icell) (size := 1) (b := b25) (l := [0, 0]) (fun _ => rfl) rfl)) ?_
  refine lst_nil ?_
  refine any_next (by repeat (first | exact List.Sublist.refl _ | exact List.nil_sublist _ | refine List.Sublist.cons_cons _ ?_ | refine List.Sublist.cons _ ?_)) ?_
  refine any_take (listed' := [true, true, true, true, true, true, true, true, true, true, true, true, true].toArray) 12 rfl rfl rfl (by kernel_rfl) (by kernel_rfl) (by kernel_rfl) (by repeat (first | exact List.Sublist.refl _ | exact List.nil_sublist _ | refine List.Sublist.cons_cons _ ?_ | refine List.Sublist.cons _ ?_)) (yld_assign rfl) rfl ?_
  refine any_done rfl (by kernel_rfl) ?_
  refine ex_then ?_
  refine cod_seq ?_
  refine cod_region ?_
  refine lst_move rfl rfl ?_
  refine lst_int rfl rfl rfl bin_neq ?_
  refine lst_nil ?_
  refine ex_then ?_
  refine cod_cond_dec rfl (fun hc0 => ?_) (fun hc0 => ?_)
  · skip
    exact absurd rfl hc0 -- done
  · skip
    refine cod_skip ?_
    refine ex_then ?_
    refine cod_seq ?_
    refine cod_seq ?_
    refine cod_region ?_
    refine lst_field_z rfl rfl F.fi28_0 F.ti25 ?_
    refine lst_load rfl rfl F.one25 ?_
    refine lst_len rfl rfl Tryd.underlying25 ?_
    refine lst_move rfl rfl ?_
    refine lst_nil ?_
    refine ex_then ?_
    refine cod_block ?_
    refine cod_loop (G := Nat) (fun k => k ≤ vs.length) (fun k => vs.length - k) (fun k => [(1, .pointer (some ⟨b1, 0, none⟩)), (31, .slice vA vs.length vc), (32, .int .i64 (vs.length : Int)), (33, .int .i64 (k : Int))]) (fun k => [.blk b1 (.cells [.slice vA vs.length vc, .slice rA rs.length rc].toArray 28 (0, 0))]) 0 (Nat.zero_le _) (by repeat (first | exact Sub.nil _ | refine Sub.cons rfl ?_)) (by repeat (first | exact List.Sublist.refl _ | exact List.nil_sublist _ | refine List.Sublist.cons_cons _ ?_ | refine List.Sublist.cons _ ?_)) ?_
    intro k hk
    (try dsimp only at hk ⊢)
    refine cod_seq ?_
    refine cod_region ?_
    refine lst_int rfl rfl rfl bin_lss ?_
    refine lst_nil ?_
    refine ex_then ?_
    refine cod_seq ?_
    refine cod_cond_dec rfl (fun hc1 => ?_) (fun hc1 => ?_)
    · skip
      have hk' : k < vs.length := by omega
      obtain ⟨b, o, rfl, hb, hcell⟩ := hA (by omega)
      obtain ⟨x, hx⟩ : ∃ x, vs[k]? = some x := ⟨_, List.getElem?_eq_getElem hk'⟩
      obtain ⟨hx1, hx2, hx3, hx4, hx5⟩ := hv k x hx
      refine cod_skip ?_
      refine ex_then ?_
      refine cod_seq ?_
      refine cod_block ?_
      refine cod_seq ?_
      refine cod_region ?_
      refine lst_move rfl rfl ?_
      refine lst_index (j := k) rfl rfl rfl Tryd.underlying25 F.ti56 rfl hk' ?_
      refine lst_loadN_at (l := [.int .i64 x.fr, .int .i64 (x.room : Int), .int .i64 (x.lo : Int), .int .i64 (x.hi : Int)]) rfl rfl F.agg56 F.ti56 rfl (fun a w ha j u hu => ha.old (hcell k x hx j u hu) hb) ?_
      refine lst_alloc rfl F.ti56 ?_
      intro b5
      refine lst_assign rfl rfl ?_
      refine lst_store rfl rfl F.ti56 rfl ?_
      refine lst_nil ?_
      refine ex_then ?_
      refine cod_seq ?_
      refine cod_region ?_
      refine lst_field_z rfl rfl F.fi56_0 F.ti3 ?_
      refine lst_load rfl rfl F.one3 ?_
      refine lst_move rfl rfl ?_
      refine lst_int (v := .int .i64 ((k : Int) - 1)) rfl rfl rfl (fun w => bin_sub w (wrap_i64' _ (by omega) (by omega))) ?_
      refine lst_fn0 (vs := [_, _, _]) rfl rfl F.ent31 (fun a w ha => outside_c x.fr (-1) ((k : Int) - 1) w) ?_
      refine lst_not rfl rfl ?_
      refine lst_fn0 (v := .int .i64 0) (vs := [_, _]) rfl rfl F.ent50 (fun a w ha => (unless_c _ 3 w).mono (fun e w' h => ⟨h.1.trans (by rw [if_pos (by simp <;> omega)]), h.2⟩)) ?_
      refine lst_assign rfl rfl ?_
      refine lst_nil ?_
      refine ex_then ?_
      refine cod_seq ?_
      refine cod_region ?_
      refine lst_field_z rfl rfl F.fi56_1 F.ti3 ?_
      refine lst_load rfl rfl F.one3 ?_
      refine lst_fn0 (vs := [_, _, _]) rfl rfl F.ent31 (fun a w ha => outside_c (x.room : Int) 0 40 w) ?_
      refine lst_not rfl rfl ?_
      refine lst_fn0 (v := .int .i64 0) (vs := [_, _]) rfl rfl F.ent50 (fun a w ha => (unless_c _ 1 w).mono (fun e w' h => ⟨h.1.trans (by rw [if_pos (by simp <;> omega)]), h.2⟩)) ?_
      refine lst_assign rfl rfl ?_
      refine lst_nil ?_
      refine ex_then ?_
      refine cod_seq ?_
      refine cod_region ?_
      refine lst_cut1 12 61 (.bool true) ?_ ?_
      · skip
        refine lst_field_z rfl rfl F.fi56_2 F.ti33 ?_
        refine lst_field rfl rfl F.fi33_0 F.ti3 ?_
        refine lst_load rfl rfl F.one3 ?_
        refine lst_fn0 (vs := [_, _, _]) rfl rfl F.ent31 (fun a w ha => outside_c (x.lo : Int) 0 20 w) ?_
        refine lst_not rfl rfl ?_
        refine lst_move rfl rfl ?_
        refine lst_split_bool (t := 55) rfl (fun hg55 => ?_) (fun hg55 => ?_)
        · skip
          refine lst_on rfl rfl ?_
          refine lst_field_z rfl rfl F.fi56_2 F.ti33 ?_
          refine lst_on rfl rfl ?_
          refine lst_field rfl rfl F.fi33_1 F.ti3 ?_
          refine lst_on rfl rfl ?_
          refine lst_load rfl rfl F.one3 ?_
          refine lst_on rfl rfl ?_
          refine lst_fn0 (vs := [_, _, _]) rfl rfl F.ent31 (fun a w ha => outside_c (x.hi : Int) 0 20 w) ?_
          refine lst_on rfl rfl ?_
          refine lst_not rfl rfl ?_
          refine lst_pick_true rfl rfl rfl ?_
          refine lst_nil ?_
          exact ex_cut (.cons (by first | (simp_all [look]; done) | (simp_all [look]; omega)) (by repeat (first | exact Sub.nil _ | refine Sub.cons rfl ?_))) (by repeat (first | exact List.Sublist.refl _ | exact List.nil_sublist _ | refine List.Sublist.cons_cons _ ?_ | refine List.Sublist.cons _ ?_))
        · skip
          refine lst_off rfl rfl rfl ?_
          refine lst_off rfl rfl rfl ?_
          refine lst_off rfl rfl rfl ?_
          refine lst_off rfl rfl rfl ?_
          refine lst_off rfl rfl rfl ?_
          refine lst_pick_false rfl rfl rfl ?_
          refine lst_nil ?_
          exact ex_cut (.cons (by first | (simp_all [look]; done) | (simp_all [look]; omega)) (by repeat (first | exact Sub.nil _ | refine Sub.cons rfl ?_))) (by repeat (first | exact List.Sublist.refl _ | exact List.nil_sublist _ | refine List.Sublist.cons_cons _ ?_ | refine List.Sublist.cons _ ?_))
      refine lst_fn0 (v := .int .i64 0) (vs := [_, _]) rfl rfl F.ent50 (fun a w ha => (unless_c _ 1 w).mono (fun e w' h => ⟨h.1.trans (by rw [if_pos rfl]), h.2⟩)) ?_
      refine lst_assign rfl rfl ?_
      refine lst_nil ?_
      refine ex_then ?_
      refine cod_seq ?_
      refine cod_region ?_
      refine lst_move rfl rfl ?_
      refine lst_move rfl rfl ?_
      refine lst_move rfl rfl ?_
      refine lst_field_z rfl rfl F.fi56_2 F.ti33 ?_
      refine lst_field rfl rfl F.fi33_0 F.ti3 ?_
      refine lst_load rfl rfl F.one3 ?_
      refine lst_field_z rfl rfl F.fi56_2 F.ti33 ?_
      refine lst_field rfl rfl F.fi33_1 F.ti3 ?_
      refine lst_load rfl rfl F.one3 ?_
      refine lst_int rfl rfl rfl bin_leq ?_
      refine lst_fn0 (v := .int .i64 0) (vs := [_, _]) rfl rfl F.ent50 (fun a w ha => (unless_c _ 5 w).mono (fun e w' h => ⟨h.1.trans (by rw [if_pos (by simp <;> omega)]), h.2⟩)) ?_
      refine lst_lit (vs := [(0, _), (1, _), (2, _), (3, _)]) rfl rfl Tryd.underlying150 F.ti34 rfl rfl rfl ?_
      intro b74
      refine lst_fn0 (v := .int .i64 0) (vs := [_]) rfl rfl F.ent49 (fun a w ha => first_c (some ⟨b74, 0, none⟩) 4 [0, 0, 0, 0] (by simp) (by decide) w (blk_reads ha (cells := icell) (size := 1) (b := b74) (l := [0, 0, 0, 0]) (fun _ => rfl) rfl)) ?_
      refine lst_assign rfl rfl ?_
      refine lst_nil ?_
      refine ex_then ?_
      refine cod_seq ?_
      refine cod_region ?_
      refine lst_move rfl rfl ?_
      refine lst_int rfl rfl rfl bin_neq ?_
      refine lst_nil ?_
      refine ex_then ?_
      refine cod_cond_dec rfl (fun hc2 => ?_) (fun hc2 => ?_)
      · skip
        exact absurd rfl hc2 -- done
      · skip
        refine cod_skip ?_
        refine ex_block_normal ?_
        refine ex_then ?_
        refine cod_region ?_
        refine lst_int rfl rfl rfl (fun w => bin_add w (wrap_i64' _ (by omega) (by omega))) ?_
        refine lst_move rfl rfl ?_
        refine lst_nil ?_
        refine ex_round (k + 1) (by omega) (by (try dsimp only); omega) (by repeat (first | exact Sub.nil _ | refine Sub.cons rfl ?_)) (by repeat (first | exact List.Sublist.refl _ | exact List.nil_sublist _ | refine List.Sublist.cons_cons _ ?_ | refine List.Sublist.cons _ ?_))
    · skip
      refine cod_exit ?_
      refine ex_then_exit ?_
      refine ex_then_exit ?_
      refine ex_block_exit ?_
      refine ex_then ?_
      refine cod_seq ?_
      refine cod_seq ?_
      refine cod_region ?_
      refine lst_field_z rfl rfl F.fi28_1 F.ti26 ?_
      refine lst_load rfl rfl F.one26 ?_
      refine lst_len rfl rfl Tryd.underlying26 ?_
      refine lst_int rfl rfl rfl bin_gtr ?_
      refine lst_nil ?_
      refine ex_then ?_
      refine cod_cond_dec rfl (fun hc3 => ?_) (fun hc3 => ?_)
      · skip
        omega -- done
      · skip
        refine cod_skip ?_
        refine ex_then ?_
        refine cod_seq ?_
        refine cod_seq ?_
        refine cod_region ?_
        refine lst_field_z rfl rfl F.fi28_1 F.ti26 ?_
        refine lst_load rfl rfl F.one26 ?_
        refine lst_len rfl rfl Tryd.underlying26 ?_
        refine lst_move rfl rfl ?_
        refine lst_nil ?_
        refine ex_then ?_
        refine cod_block ?_
        refine cod_loop (G := Nat) (fun k => k ≤ rs.length) (fun k => rs.length - k) (fun k => [(1, .pointer (some ⟨b1, 0, none⟩)), (85, .slice rA rs.length rc), (86, .int .i64 (rs.length : Int)), (87, .int .i64 (k : Int))]) (fun k => [.blk b1 (.cells [.slice vA vs.length vc, .slice rA rs.length rc].toArray 28 (0, 0))]) 0 (Nat.zero_le _) (by repeat (first | exact Sub.nil _ | refine Sub.cons rfl ?_)) (by repeat (first | exact List.Sublist.refl _ | exact List.nil_sublist _ | refine List.Sublist.cons_cons _ ?_ | refine List.Sublist.cons _ ?_)) ?_
        intro k hk
        (try dsimp only at hk ⊢)
        refine cod_seq ?_
        refine cod_region ?_
        refine lst_int rfl rfl rfl bin_lss ?_
        refine lst_nil ?_
        refine ex_then ?_
        refine cod_seq ?_
        refine cod_cond_dec rfl (fun hc4 => ?_) (fun hc4 => ?_)
        · skip
          have hk' : k < rs.length := by omega
          obtain ⟨b, o, rfl, hb, hcell⟩ := hB (by omega)
          obtain ⟨x, hx⟩ : ∃ x, rs[k]? = some x := ⟨_, List.getElem?_eq_getElem hk'⟩
          obtain ⟨hx1, hx2, hx3, hx4⟩ := hr k x hx
          refine cod_skip ?_
          refine ex_then ?_
          refine cod_seq ?_
          refine cod_block ?_
          refine cod_seq ?_
          refine cod_region ?_
          refine lst_index (j := k) rfl rfl rfl Tryd.underlying26 F.ti59 rfl hk' ?_
          refine lst_loadN_at (l := [.int .i64 (x.v : Int), .int .i64 (x.sc : Int), .int .i64 (x.sh : Int), .int .i64 (x.er : Int)]) rfl rfl F.agg59 F.ti59 rfl (fun a w ha j u hu => ha.old (hcell k x hx j u hu) hb) ?_
          refine lst_alloc rfl F.ti59 ?_
          intro b11
          refine lst_store rfl rfl F.ti59 rfl ?_
          refine lst_nil ?_
          refine ex_then ?_
          refine cod_seq ?_
          refine cod_region ?_
          refine lst_cut1 14 104 (.bool true) ?_ ?_
          · skip
            refine lst_field_z rfl rfl F.fi59_0 F.ti3 ?_
            refine lst_load rfl rfl F.one3 ?_
            refine lst_field_z rfl rfl F.fi28_0 F.ti25 ?_
            refine lst_load rfl rfl F.one25 ?_
            refine lst_len rfl rfl Tryd.underlying25 ?_
            refine lst_int (v := .int .i64 ((vs.length : Int) - 1)) rfl rfl rfl (fun w => bin_sub w (wrap_i64' _ (by omega) (by omega))) ?_
            refine lst_fn0 (vs := [_, _, _]) rfl rfl F.ent31 (fun a w ha => outside_c (x.v : Int) 0 ((vs.length : Int) - 1) w) ?_
            refine lst_not rfl rfl ?_
            refine lst_move rfl rfl ?_
            refine lst_split_bool (t := 99) rfl (fun hg99 => ?_) (fun hg99 => ?_)
            · skip
              refine lst_on rfl rfl ?_
              refine lst_field_z rfl rfl F.fi59_1 F.ti3 ?_
              refine lst_on rfl rfl ?_
              refine lst_load rfl rfl F.one3 ?_
              refine lst_on rfl rfl ?_
              refine lst_fn0 (vs := [_, _, _]) rfl rfl F.ent31 (fun a w ha => outside_c (x.sc : Int) 0 2 w) ?_
              refine lst_on rfl rfl ?_
              refine lst_not rfl rfl ?_
              refine lst_pick_true rfl rfl rfl ?_
              refine lst_nil ?_
              exact ex_cut (.cons (by first | (simp_all [look]; done) | (simp_all [look]; omega)) (by repeat (first | exact Sub.nil _ | refine Sub.cons rfl ?_))) (by repeat (first | exact List.Sublist.refl _ | exact List.nil_sublist _ | refine List.Sublist.cons_cons _ ?_ | refine List.Sublist.cons _ ?_))
            · skip
              refine lst_off rfl rfl rfl ?_
              refine lst_off rfl rfl rfl ?_
              refine lst_off rfl rfl rfl ?_
              refine lst_off rfl rfl rfl ?_
              refine lst_pick_false rfl rfl rfl ?_
              refine lst_nil ?_
              exact ex_cut (.cons (by first | (simp_all [look]; done) | (simp_all [look]; omega)) (by repeat (first | exact Sub.nil _ | refine Sub.cons rfl ?_))) (by repeat (first | exact List.Sublist.refl _ | exact List.nil_sublist _ | refine List.Sublist.cons_cons _ ?_ | refine List.Sublist.cons _ ?_))
          refine lst_assign rfl rfl ?_
          refine lst_nil ?_
          refine ex_then ?_
          refine cod_seq ?_
          refine cod_region ?_
          refine lst_cut1 10 114 (.bool true) ?_ ?_
          · skip
            refine lst_field_z rfl rfl F.fi59_2 F.ti3 ?_
            refine lst_load rfl rfl F.one3 ?_
            refine lst_fn0 (vs := [_, _, _]) rfl rfl F.ent31 (fun a w ha => outside_c (x.sh : Int) 0 60 w) ?_
            refine lst_not rfl rfl ?_
            refine lst_move rfl rfl ?_
            refine lst_split_bool (t := 109) rfl (fun hg109 => ?_) (fun hg109 => ?_)
            · skip
              refine lst_on rfl rfl ?_
              refine lst_field_z rfl rfl F.fi59_3 F.ti3 ?_
              refine lst_on rfl rfl ?_
              refine lst_load rfl rfl F.one3 ?_
              refine lst_on rfl rfl ?_
              refine lst_fn0 (vs := [_, _, _]) rfl rfl F.ent31 (fun a w ha => outside_c (x.er : Int) 0 9 w) ?_
              refine lst_on rfl rfl ?_
              refine lst_not rfl rfl ?_
              refine lst_pick_true rfl rfl rfl ?_
              refine lst_nil ?_
              exact ex_cut (.cons (by first | (simp_all [look]; done) | (simp_all [look]; omega)) (by repeat (first | exact Sub.nil _ | refine Sub.cons rfl ?_))) (by repeat (first | exact List.Sublist.refl _ | exact List.nil_sublist _ | refine List.Sublist.cons_cons _ ?_ | refine List.Sublist.cons _ ?_))
            · skip
              refine lst_off rfl rfl rfl ?_
              refine lst_off rfl rfl rfl ?_
              refine lst_off rfl rfl rfl ?_
              refine lst_off rfl rfl rfl ?_
              refine lst_pick_false rfl rfl rfl ?_
              refine lst_nil ?_
              exact ex_cut (.cons (by first | (simp_all [look]; done) | (simp_all [look]; omega)) (by repeat (first | exact Sub.nil _ | refine Sub.cons rfl ?_))) (by repeat (first | exact List.Sublist.refl _ | exact List.nil_sublist _ | refine List.Sublist.cons_cons _ ?_ | refine List.Sublist.cons _ ?_))
          refine lst_assign rfl rfl ?_
          refine lst_nil ?_
          refine ex_then ?_
          refine cod_seq ?_
          refine cod_region ?_
          refine lst_move rfl rfl ?_
          refine lst_fn0 (v := .int .i64 0) (vs := [_, _]) rfl rfl F.ent50 (fun a w ha => (unless_c _ 3 w).mono (fun e w' h => ⟨h.1.trans (by rw [if_pos rfl]), h.2⟩)) ?_
          refine lst_move rfl rfl ?_
          refine lst_fn0 (v := .int .i64 0) (vs := [_, _]) rfl rfl F.ent50 (fun a w ha => (unless_c _ 1 w).mono (fun e w' h => ⟨h.1.trans (by rw [if_pos rfl]), h.2⟩)) ?_
          refine lst_lit (vs := [(0, _), (1, _)]) rfl rfl Tryd.underlying150 F.ti34 rfl rfl rfl ?_
          intro b119
          refine lst_fn0 (v := .int .i64 0) (vs := [_]) rfl rfl F.ent49 (fun a w ha => first_c (some ⟨b119, 0, none⟩) 2 [0, 0] (by simp) (by decide) w (blk_reads ha (cells := icell) (size := 1) (b := b119) (l := [0, 0]) (fun _ => rfl) rfl)) ?_
          refine lst_assign rfl rfl ?_
          refine lst_nil ?_
          refine ex_then ?_
          refine cod_seq ?_
          refine cod_region ?_
          refine lst_move rfl rfl ?_
          refine lst_int rfl rfl rfl bin_neq ?_
          refine lst_nil ?_
          refine ex_then ?_
          refine cod_cond_dec rfl (fun hc5 => ?_) (fun hc5 => ?_)
          · skip
            exact absurd rfl hc5 -- done
          · skip
            refine cod_skip ?_
            refine ex_block_normal ?_
            refine ex_then ?_
            refine cod_region ?_
            refine lst_int rfl rfl rfl (fun w => bin_add w (wrap_i64' _ (by omega) (by omega))) ?_
            refine lst_move rfl rfl ?_
            refine lst_nil ?_
            refine ex_round (k + 1) (by omega) (by (try dsimp only); omega) (by repeat (first | exact Sub.nil _ | refine Sub.cons rfl ?_)) (by repeat (first | exact List.Sublist.refl _ | exact List.nil_sublist _ | refine List.Sublist.cons_cons _ ?_ | refine List.Sublist.cons _ ?_))
        · skip
          refine cod_exit ?_
          refine ex_then_exit ?_
          refine ex_then_exit ?_
          refine ex_block_exit ?_
          refine ex_then ?_
          refine cod_seq ?_
          refine cod_region ?_
          refine lst_assign rfl rfl ?_
          refine lst_nil ?_
          refine ex_then ?_
          refine cod_ret ?_
          exact ex_ret rfl (fun a w ha => res_one rfl rfl ha) (fun a w ha => ⟨rfl, ha.grown (List.nil_sublist _)⟩)

end Go.Proofs.YthkbagikmbcphaaDoor.N
namespace Go.Proofs.YthkbagikmbcphaaDoor.N
open Go Go.RowKit Go.Proofs
/-! States in their blocks, and a cellar in memory. -/
def ucells (l : List Nat) : List Value := l.map fun (n : Nat) => Value.int .u64 (n : Int)
def ocell (x : Nat × Nat) : List Value := [.int .i64 (x.1 : Int), .int .i64 (x.2 : Int)]
theorem ocell_len (x : Nat × Nat) : (ocell x).length = 2 := rfl
theorem St.cells_eq (s : St) : s.cells = ucells s.lim ++ s.los.flatMap ocell := rfl
theorem ucells_len (l : List Nat) : (ucells l).length = l.length := by simp [ucells]
theorem ucells_get {l : List Nat} {i : Nat} (h : i < l.length) : (ucells l)[i]? = some (.int .u64 ((l.getD i 0 : Nat) : Int)) := by
  unfold ucells
  rw [List.getElem?_map, List.getElem?_eq_getElem h, List.getD_eq_getElem?_getD, List.getElem?_eq_getElem h]; rfl
instance ucells_ones (l : List Nat) : Ones (ucells l) := ⟨fun u hu => by
  obtain ⟨n, _, rfl⟩ := List.mem_map.1 hu
  rfl⟩
theorem ocell_one (x : Nat × Nat) : ∀ u ∈ ocell x, u.oneCell' = true := fun u hu => by
  simp [ocell] at hu
  rcases hu with rfl | rfl <;> rfl
instance st_ones (s : St) : Ones s.cells := ⟨fun u hu => by
  rw [St.cells_eq] at hu
  rcases List.mem_append.1 hu with h | h
  · exact (ucells_ones s.lim).one u h
  · obtain ⟨x, _, hx⟩ := List.mem_flatMap.1 h
    exact ocell_one x u hx⟩
theorem St.len {s : St} (h1 : s.lim.length = 6) (h2 : s.los.length = 6) : s.cells.length = 18 := by
  rw [St.cells_eq, List.length_append, ucells_len, flatMap_len ocell_len, h1, h2]
theorem St.lim_get {s : St} {i : Nat} (h1 : s.lim.length = 6) (hi : i < 6) : s.cells[0 + i * 1]? = some (.int .u64 ((s.lim.getD i 0 : Nat) : Int)) := by
  rw [Nat.zero_add, Nat.mul_one, St.cells_eq, List.getElem?_append_left (by rw [ucells_len]; omega)]
  exact ucells_get (by omega)
theorem St.los_get {s : St} {i j : Nat} {u : Value} (h1 : s.lim.length = 6) (h2 : s.los.length = 6) (hi : i < 6) (hu : (ocell (s.los.getD i (0, 0)))[j]? = some u) : s.cells[6 + i * 2 + j]? = some u := by
  rw [St.cells_eq, List.getElem?_append_right (by rw [ucells_len]; omega), ucells_len, h1, show 6 + i * 2 + j - 6 = i * 2 + j by omega]
  refine flatMap_get ocell_len s.los i _ ?_ j u hu
  rw [List.getD_eq_getElem?_getD, List.getElem?_eq_getElem (by omega)]; rfl
theorem splice_u {l : List Nat} {i x : Nat} (h : i < l.length) (r : List Value) : Splice (ucells l ++ r) (0 + i * 1) [.int .u64 (x : Int)] (ucells (l.set i x) ++ r) := by
  have hl := ucells_len l
  refine ⟨?_, by rw [List.length_append, hl]; simp; omega⟩
  rw [Nat.zero_add, Nat.mul_one, List.take_append_of_le_length (by omega), List.drop_append_of_le_length (by rw [hl]; simp; omega), ← List.append_assoc]
  congr 1
  unfold ucells
  rw [List.map_set, List.set_eq_take_append_cons_drop, if_pos (by rw [List.length_map]; exact h), List.append_assoc]; rfl
theorem splice_u0 {l : List Nat} {i x : Nat} (h : i < l.length) : Splice (ucells l) (0 + i * 1) [.int .u64 (x : Int)] (ucells (l.set i x)) := by
  have := splice_u (x := x) h []
  rw [List.append_nil, List.append_nil] at this
  exact this
theorem St.lim_set {s : St} {i x : Nat} (h1 : s.lim.length = 6) (hi : i < 6) : Splice s.cells (0 + i * 1) [.int .u64 (x : Int)] (St.cells ⟨s.lim.set i x, s.los⟩) := splice_u (by omega) _
theorem flat_splice {α : Type} {cells : α → List Value} {size : Nat} (hs : ∀ x, (cells x).length = size) {l : List α} {o : Nat} (ho : o < l.length) (x : α) : Splice (l.flatMap cells) (0 + o * size) (cells x) ((l.set o x).flatMap cells) := by
  have hlen := flatMap_len hs l
  have h4 : (o + 1) * size ≤ l.length * size := Nat.mul_le_mul_right _ ho
  refine ⟨?_, by rw [hlen, hs]; rw [Nat.succ_mul] at h4; omega⟩
  rw [Nat.zero_add]
  have h : ∀ (l : List α) (o : Nat), o < l.length → (l.set o x).flatMap cells = (l.flatMap cells).take (o * size) ++ cells x ++ (l.flatMap cells).drop (o * size + (cells x).length) := by
    intro l
    induction l with
    | nil => intro o h; cases h
    | cons y l ih =>
      intro o h
      cases o with
      | zero =>
        rw [List.set_cons_zero, List.flatMap_cons, List.flatMap_cons, Nat.zero_mul, List.take_zero, List.nil_append, Nat.zero_add, hs, ← hs y, List.drop_left]
      | succ o =>
        have := ih o (by simpa using h)
        rw [List.set_cons_succ, List.flatMap_cons, List.flatMap_cons, this]
        have e1 : (o + 1) * size = (cells y).length + o * size := by rw [hs, Nat.succ_mul, Nat.add_comm]
        rw [e1, List.take_length_add_append, Nat.add_assoc, List.drop_length_add_append, List.append_assoc, List.append_assoc, List.append_assoc]
  exact h l o ho
theorem splice_right {l r vs out : List Value} {o n : Nat} (hn : l.length = n) (h : Splice r o vs out) : Splice (l ++ r) (n + o) vs (l ++ out) := by
  subst hn
  refine ⟨?_, by rw [List.length_append]; have := h.len; omega⟩
  rw [h.eq, List.take_length_add_append, Nat.add_assoc, List.drop_length_add_append, List.append_assoc, List.append_assoc, List.append_assoc]
theorem St.los_set {s : St} {i a b : Nat} (h1 : s.lim.length = 6) (h2 : s.los.length = 6) (hi : i < 6) : Splice s.cells (6 + i * 2) [.int .i64 (a : Int), .int .i64 (b : Int)] (St.cells ⟨s.lim, s.los.set i (a, b)⟩) := by
  have h := flat_splice ocell_len (l := s.los) (o := i) (by omega) (a, b)
  rw [Nat.zero_add] at h
  exact splice_right (by rw [List.length_map]; exact h1) h
theorem ext_all {l : List Value} {n : Nat} (h : l.length = n) : Ext l 0 n l := ⟨by rw [List.drop_zero, List.take_of_length_le (by omega)], by omega⟩
theorem splice_all {l m : List Value} (h : l.length = m.length) : Splice l 0 m m := ⟨by rw [List.take_zero, List.nil_append, Nat.zero_add, List.drop_eq_nil_of_le (by omega), List.append_nil], by omega⟩
/-- Pointers to blocks. -/
def bcell (b : Nat) : List Value := [.pointer (some ⟨b, 0, none⟩)]
theorem bcell_len (b : Nat) : (bcell b).length = 1 := rfl
/-- Where a cellar lies. -/
structure Cd where
  pc : Nat
  vs : List Vs
  rs : List Rd
  vA : Option Addr
  rA : Option Addr
  tA : Option Addr
  vc : Nat
  rc : Nat
  tc : Nat
  tps : List Nat
  fA : Nat → Option Addr
  fc : Nat → Nat
structure Cel (w : World) (d : Cd) : Prop where
  pc : d.pc < w.heap.size
  c0 : w.cell? ⟨d.pc, 0, none⟩ = some (.slice d.vA d.vs.length d.vc)
  c1 : w.cell? ⟨d.pc, 1, none⟩ = some (.slice d.rA d.rs.length d.rc)
  c2 : w.cell? ⟨d.pc, 2, none⟩ = some (.slice d.tA d.vs.length d.tc)
  n : d.tps.length = d.vs.length
  hv : RdL Vs.cells 4 w d.vA d.vs
  hr : RdL Rd.cells 4 w d.rA d.rs
  ht : RdL bcell 1 w d.tA d.tps
  tun : ∀ (i t : Nat), d.tps[i]? = some t → t < w.heap.size ∧ w.cell? ⟨t, 4, none⟩ = some (.int .i64 (i : Int)) ∧ w.cell? ⟨t, 5, none⟩ = some (.slice (d.fA i) (kids d.vs i).length (d.fc i)) ∧ RdL bcell 1 w (d.fA i) ((kids d.vs i).map fun k => d.tps.getD k 0)
theorem Cel.later {w w' : World} {d : Cd} (h : Cel w d) (hb : Below w.heap.size w w') : Cel w' d :=
  ⟨Nat.lt_of_lt_of_le h.pc hb.size, (hb.cell (cell_lt h.c0)).trans h.c0, (hb.cell (cell_lt h.c1)).trans h.c1, (hb.cell (cell_lt h.c2)).trans h.c2, h.n, h.hv.later hb, h.hr.later hb, h.ht.later hb, fun i t hi => by
    obtain ⟨h1, h2, h3, h4⟩ := h.tun i t hi
    exact ⟨Nat.lt_of_lt_of_le h1 hb.size, (hb.cell (cell_lt h2)).trans h2, (hb.cell (cell_lt h3)).trans h3, h4.later hb⟩⟩
theorem getD_some' {l : List Nat} {i : Nat} (h : i < l.length) : l[i]? = some (l.getD i 0) := by
  rw [List.getD_eq_getElem?_getD, List.getElem?_eq_getElem h]; rfl
theorem lst_dyn0 {C : Ctx} {fr : List (Nat × Value)} {hp : List Res} {ops : Array Oper} {Q : Exit → Act → World → Prop} {rest : List Oper} {d : Nat} {ty : TypeId} {pos : String} {after : Array Edge} {x : Operand} {f : FuncId} {vs : List Value} {args : Array Operand} {ts : Array TypeId} {v : Value} (hd : Nat.blt d C.N = true)
    (hx : ev fr x = some (.func (.func f) #[] #[])) (hargs : args.toList.map (ev fr) = vs.map some) (hf : Enters C.P f) (hc : ∀ a w, At C fr hp a w → Calls C.P f vs.toArray w fun e w' => e = .returned v ∧ Grew w w' [])
    (k : Lst C ops Q rest ((d, v) :: fr) hp) : Lst C ops Q (⟨some d, .call { callee := .value x, args := args, argTypes := ts }, ty, pos, after, none⟩ :: rest) fr hp :=
  lst_call (X := Unit) (first := []) (cap := []) (p := fun _ => True) (val := fun _ => v) (rs := fun _ => hp) hd hx hargs hf (fun a w ha => by
    have h := hc a w ha
    rw [List.nil_append, List.append_nil]
    exact h.mono fun e w' h => ⟨(), trivial, h.1, ha.more h.2⟩) (fun _ _ => k)
theorem getD_of {α : Type} [Inhabited α] {l : List α} {i : Nat} {x : α} (h : l[i]? = some x) : l.getD i default = x := by rw [List.getD_eq_getElem?_getD, h]; rfl
end Go.Proofs.YthkbagikmbcphaaDoor.N
namespace Go.Proofs.YthkbagikmbcphaaDoor.N
open Go Go.RowKit Go.Proofs
theorem F.agg72 : aggB Tryd.prog 72 = true := by unfold aggB; rw [Tryd.underlying72]
theorem F.ent52 : Enters Tryd.prog 52 := enters_of Tryd.func52 rfl (by kernel_rfl)
theorem F.fi72_0 : FI Tryd.prog 72 0 68 0 := ⟨_, _, Tryd.underlying72, rfl, rfl, rfl⟩
theorem F.one67 : One Tryd.prog 67 := ⟨by unfold aggB; rw [Tryd.underlying67], by rw [Tryd.underlying67]; simp⟩
theorem F.ti67 : TI Tryd.prog 67 (.int .u64 0) 1 8 := TI.of (by kernel_rfl)
theorem F.ti68 : TI Tryd.prog 68 (.agg [.int .u64 0, .int .u64 0, .int .u64 0, .int .u64 0, .int .u64 0, .int .u64 0].toArray) 6 48 := TI.of (by kernel_rfl)
theorem F.ti72 : TI Tryd.prog 72 (.agg [.int .u64 0, .int .u64 0, .int .u64 0, .int .u64 0, .int .u64 0, .int .u64 0, .int .i64 0, .int .i64 0, .int .i64 0, .int .i64 0, .int .i64 0, .int .i64 0, .int .i64 0, .int .i64 0, .int .i64 0, .int .i64 0, .int .i64 0, .int .i64 0].toArray) 18 144 := TI.of (by kernel_rfl)
theorem weighed_c (s : St) (v n : Nat) (hv : v < 6) (hs1 : s.lim.length = 6) (hs2 : s.los.length = 6) (hs3 : ∀ n ∈ s.lim, n ≤ anyN) (_hs4 : ∀ x ∈ s.los, x.1 ≤ 1000 ∧ x.2 ≤ 1000) (w : World) : Calls Tryd.prog 34 #[.agg (St.cells s).toArray, .int .i64 (v : Int), .int .i64 (n : Int)] w fun e w' => e = .returned (.agg (St.cells (weighed s v n)).toArray) ∧ Grew w w' [] := by
  have hlim : ∀ i, i < 6 → s.lim.getD i 0 < 18446744073709551616 := fun i hi => Nat.lt_of_le_of_lt (hs3 _ (by rw [List.getD_eq_getElem?_getD, List.getElem?_eq_getElem (by omega)]; exact List.getElem_mem (by omega))) (by decide)
  refine enter (N := 18) [(0, .agg (St.cells s).toArray), (1, .int .i64 (v : Int)), (2, .int .i64 (n : Int))] Tryd.func34 rfl Tryd.ntmps34 rfl rfl ?_
  refine cod_seq ?_
  refine cod_region ?_
  refine lst_box rfl rfl ?_
  intro b3
  refine lst_alloc rfl F.ti72 ?_
  intro b6
  refine lst_nil ?_
  refine ex_then ?_
  refine cod_seq ?_
  refine any_begin [.b b3] F.follows 11 rfl [false, false, false, false, false, false, false, false, false, false, false] rfl ?_
  refine any_take (listed' := [true, false, false, false, false, false, false, false, false, false, false].toArray) 0 rfl rfl rfl (by kernel_rfl) (by kernel_rfl) (by kernel_rfl) (by repeat (first | exact List.Sublist.refl _ | exact List.nil_sublist _ | refine List.Sublist.cons_cons _ ?_ | refine List.Sublist.cons _ ?_)) (yld_move rfl) rfl ?_
  refine any_take (listed' := [true, true, false, false, false, false, false, false, false, false, false].toArray) 1 rfl rfl rfl (by kernel_rfl) (by kernel_rfl) (by kernel_rfl) (by repeat (first | exact List.Sublist.refl _ | exact List.nil_sublist _ | refine List.Sublist.cons_cons _ ?_ | refine List.Sublist.cons _ ?_)) (yld_field_z rfl F.fi72_0 F.ti68) rfl ?_
  refine any_take (listed' := [true, true, true, false, false, false, false, false, false, false, false].toArray) 2 rfl rfl rfl (by kernel_rfl) (by kernel_rfl) (by kernel_rfl) (by repeat (first | exact List.Sublist.refl _ | exact List.nil_sublist _ | refine List.Sublist.cons_cons _ ?_ | refine List.Sublist.cons _ ?_)) (yld_index_arr (j := v) rfl rfl Tryd.underlying68 F.ti67 rfl hv) rfl ?_
  refine any_take (listed' := [true, true, true, false, true, false, false, false, false, false, false].toArray) 4 rfl rfl rfl (by kernel_rfl) (by kernel_rfl) (by kernel_rfl) (by repeat (first | exact List.Sublist.refl _ | exact List.nil_sublist _ | refine List.Sublist.cons_cons _ ?_ | refine List.Sublist.cons _ ?_)) (yld_move rfl) rfl ?_
  refine any_take (listed' := [true, true, true, false, true, true, false, false, false, false, false].toArray) 5 rfl rfl rfl (by kernel_rfl) (by kernel_rfl) (by kernel_rfl) (by repeat (first | exact List.Sublist.refl _ | exact List.nil_sublist _ | refine List.Sublist.cons_cons _ ?_ | refine List.Sublist.cons _ ?_)) (yld_move rfl) rfl ?_
  refine any_take (listed' := [true, true, true, false, true, true, false, false, true, false, false].toArray) 8 rfl rfl rfl (by kernel_rfl) (by kernel_rfl) (by kernel_rfl) (by repeat (first | exact List.Sublist.refl _ | exact List.nil_sublist _ | refine List.Sublist.cons_cons _ ?_ | refine List.Sublist.cons _ ?_)) (yld_field_z rfl F.fi72_0 F.ti68) rfl ?_
  refine any_two (l1 := [true, true, true, true, true, true, false, false, true, false, false].toArray) (l2 := [true, true, true, false, true, true, true, false, true, false, false].toArray) 3 6 (by kernel_rfl) rfl rfl rfl rfl ?_ ?_
  · skip
    refine lst_load_at (v := .int .u64 ((s.lim.getD v 0 : Nat) : Int)) rfl rfl F.one67 (fun a w ha => cell_of_blk (ha.mem_blk (InB.mem (b := b3))) (St.lim_get hs1 hv)) ?_
    refine lst_nil ?_
    refine any_next (by repeat (first | exact List.Sublist.refl _ | exact List.nil_sublist _ | refine List.Sublist.cons_cons _ ?_ | refine List.Sublist.cons _ ?_)) ?_
    refine any_one (listed' := [true, true, true, true, true, true, true, false, true, false, false].toArray) 6 (by kernel_rfl) rfl rfl ?_
    refine lst_fn0 (vs := [_, _]) rfl rfl F.ent52 (fun a w ha => span_c (n : Int) (n : Int) w) ?_
    refine lst_nil ?_
    refine any_next (by repeat (first | exact List.Sublist.refl _ | exact List.nil_sublist _ | refine List.Sublist.cons_cons _ ?_ | refine List.Sublist.cons _ ?_)) ?_
    refine any_take (listed' := [true, true, true, true, true, true, true, true, true, false, false].toArray) 7 rfl rfl rfl (by kernel_rfl) (by kernel_rfl) (by kernel_rfl) (by repeat (first | exact List.Sublist.refl _ | exact List.nil_sublist _ | refine List.Sublist.cons_cons _ ?_ | refine List.Sublist.cons _ ?_)) (yld_int (v := .int .u64 ((s.lim.getD v 0 &&& spanN n n : Nat) : Int)) rfl rfl (fun w => bin_and w (u64_and _ _ (hlim v hv) (Nat.lt_of_le_of_lt (spanN_le _ _) (by decide))))) rfl ?_
    refine any_take (listed' := [true, true, true, true, true, true, true, true, true, true, false].toArray) 9 rfl rfl rfl (by kernel_rfl) (by kernel_rfl) (by kernel_rfl) (by repeat (first | exact List.Sublist.refl _ | exact List.nil_sublist _ | refine List.Sublist.cons_cons _ ?_ | refine List.Sublist.cons _ ?_)) (yld_index_arr (j := v) rfl rfl Tryd.underlying68 F.ti67 rfl hv) rfl ?_
    refine any_one (listed' := [true, true, true, true, true, true, true, true, true, true, true].toArray) 10 (by kernel_rfl) rfl rfl ?_
    refine lst_store (hs := St.lim_set hs1 hv) rfl rfl F.ti67 rfl ?_
    refine lst_nil ?_
    refine any_next (by repeat (first | exact List.Sublist.refl _ | exact List.nil_sublist _ | refine List.Sublist.cons_cons _ ?_ | refine List.Sublist.cons _ ?_)) ?_
    refine any_done rfl (by kernel_rfl) ?_
    refine ex_then ?_
    refine cod_seq ?_
    refine cod_region ?_
    refine lst_loadN (l := St.cells (weighed s v n)) (hv := ext_all (St.len (s := weighed s v n) (by show (s.lim.set _ _).length = 6; rw [List.length_set]; exact hs1) hs2)) rfl rfl F.agg72 F.ti72 ?_
    refine lst_store (hs := splice_all (m := St.cells (weighed s v n)) (by rw [St.len (s := weighed s v n) (by show (s.lim.set _ _).length = 6; rw [List.length_set]; exact hs1) hs2]; rfl)) rfl rfl F.ti72 (St.len (s := weighed s v n) (by show (s.lim.set _ _).length = 6; rw [List.length_set]; exact hs1) hs2) ?_
    refine lst_nil ?_
    refine ex_then ?_
    refine cod_ret ?_
    exact ex_ret rfl (fun a w ha => res_cellN rfl rfl F.agg72 F.ti72 (St.len (s := weighed s v n) (by show (s.lim.set _ _).length = 6; rw [List.length_set]; exact hs1) hs2) ha) (fun a w ha => ⟨rfl, ha.grown (List.nil_sublist _)⟩)
  · skip
    refine lst_fn0 (vs := [_, _]) rfl rfl F.ent52 (fun a w ha => span_c (n : Int) (n : Int) w) ?_
    refine lst_nil ?_
    refine any_next (by repeat (first | exact List.Sublist.refl _ | exact List.nil_sublist _ | refine List.Sublist.cons_cons _ ?_ | refine List.Sublist.cons _ ?_)) ?_
    refine any_one (listed' := [true, true, true, true, true, true, true, false, true, false, false].toArray) 3 (by kernel_rfl) rfl rfl ?_
    refine lst_load_at (v := .int .u64 ((s.lim.getD v 0 : Nat) : Int)) rfl rfl F.one67 (fun a w ha => cell_of_blk (ha.mem_blk (InB.mem (b := b3))) (St.lim_get hs1 hv)) ?_
    refine lst_nil ?_
    refine any_next (by repeat (first | exact List.Sublist.refl _ | exact List.nil_sublist _ | refine List.Sublist.cons_cons _ ?_ | refine List.Sublist.cons _ ?_)) ?_
    refine any_take (listed' := [true, true, true, true, true, true, true, true, true, false, false].toArray) 7 rfl rfl rfl (by kernel_rfl) (by kernel_rfl) (by kernel_rfl) (by repeat (first | exact List.Sublist.refl _ | exact List.nil_sublist _ | refine List.Sublist.cons_cons _ ?_ | refine List.Sublist.cons _ ?_)) (yld_int (v := .int .u64 ((s.lim.getD v 0 &&& spanN n n : Nat) : Int)) rfl rfl (fun w => bin_and w (u64_and _ _ (hlim v hv) (Nat.lt_of_le_of_lt (spanN_le _ _) (by decide))))) rfl ?_
    refine any_take (listed' := [true, true, true, true, true, true, true, true, true, true, false].toArray) 9 rfl rfl rfl (by kernel_rfl) (by kernel_rfl) (by kernel_rfl) (by repeat (first | exact List.Sublist.refl _ | exact List.nil_sublist _ | refine List.Sublist.cons_cons _ ?_ | refine List.Sublist.cons _ ?_)) (yld_index_arr (j := v) rfl rfl Tryd.underlying68 F.ti67 rfl hv) rfl ?_
    refine any_one (listed' := [true, true, true, true, true, true, true, true, true, true, true].toArray) 10 (by kernel_rfl) rfl rfl ?_
    refine lst_store (hs := St.lim_set hs1 hv) rfl rfl F.ti67 rfl ?_
    refine lst_nil ?_
    refine any_next (by repeat (first | exact List.Sublist.refl _ | exact List.nil_sublist _ | refine List.Sublist.cons_cons _ ?_ | refine List.Sublist.cons _ ?_)) ?_
    refine any_done rfl (by kernel_rfl) ?_
    refine ex_then ?_
    refine cod_seq ?_
    refine cod_region ?_
    refine lst_loadN (l := St.cells (weighed s v n)) (hv := ext_all (St.len (s := weighed s v n) (by show (s.lim.set _ _).length = 6; rw [List.length_set]; exact hs1) hs2)) rfl rfl F.agg72 F.ti72 ?_
    refine lst_store (hs := splice_all (m := St.cells (weighed s v n)) (by rw [St.len (s := weighed s v n) (by show (s.lim.set _ _).length = 6; rw [List.length_set]; exact hs1) hs2]; rfl)) rfl rfl F.ti72 (St.len (s := weighed s v n) (by show (s.lim.set _ _).length = 6; rw [List.length_set]; exact hs1) hs2) ?_
    refine lst_nil ?_
    refine ex_then ?_
    refine cod_ret ?_
    exact ex_ret rfl (fun a w ha => res_cellN rfl rfl F.agg72 F.ti72 (St.len (s := weighed s v n) (by show (s.lim.set _ _).length = 6; rw [List.length_set]; exact hs1) hs2) ha) (fun a w ha => ⟨rfl, ha.grown (List.nil_sublist _)⟩)

end Go.Proofs.YthkbagikmbcphaaDoor.N
namespace Go.Proofs.YthkbagikmbcphaaDoor.N
open Go Go.RowKit Go.Proofs
theorem F.agg33 : aggB Tryd.prog 33 = true := by unfold aggB; rw [Tryd.underlying33]
theorem F.ent36 : Enters Tryd.prog 36 := enters_of Tryd.func36 rfl (by kernel_rfl)
theorem F.fi123_0 : FI Tryd.prog 123 0 28 0 := ⟨_, _, Tryd.underlying123, rfl, rfl, rfl⟩
theorem F.fi72_1 : FI Tryd.prog 72 1 70 6 := ⟨_, _, Tryd.underlying72, rfl, rfl, rfl⟩
theorem F.ti28 : TI Tryd.prog 28 (.agg [.slice none 0 0, .slice none 0 0].toArray) 2 48 := TI.of (by kernel_rfl)
theorem F.ti70 : TI Tryd.prog 70 (.agg [.int .i64 0, .int .i64 0, .int .i64 0, .int .i64 0, .int .i64 0, .int .i64 0, .int .i64 0, .int .i64 0, .int .i64 0, .int .i64 0, .int .i64 0, .int .i64 0].toArray) 12 96 := TI.of (by kernel_rfl)
theorem none_c (x : Rd) (w : World) : Calls Tryd.prog 36 #[.agg [.int .i64 (x.v : Int), .int .i64 (x.sc : Int), .int .i64 (x.sh : Int), .int .i64 (x.er : Int)].toArray] w fun e w' => e = .returned (.bool false) ∧ Grew w w' [] := by
  refine enter (N := 3) [(0, .agg [.int .i64 (x.v : Int), .int .i64 (x.sc : Int), .int .i64 (x.sh : Int), .int .i64 (x.er : Int)].toArray)] Tryd.func36 rfl Tryd.ntmps36 rfl rfl ?_
  refine cod_seq ?_
  refine cod_region ?_
  refine lst_box rfl rfl ?_
  intro b1
  refine lst_assign rfl rfl ?_
  refine lst_nil ?_
  refine ex_then ?_
  refine cod_seq ?_
  refine cod_region ?_
  refine lst_assign rfl rfl ?_
  refine lst_nil ?_
  refine ex_then ?_
  refine cod_ret ?_
  exact ex_ret rfl (fun a w ha => res_one rfl rfl ha) (fun a w ha => ⟨rfl, ha.grown (List.nil_sublist _)⟩)

theorem now_c (d : Cd) (hn1 : 1 ≤ d.vs.length) (hn6 : d.vs.length ≤ 6) (hr6 : d.rs.length ≤ 6) (hv : ∀ (i : Nat) x, d.vs[i]? = some x → -1 ≤ x.fr ∧ x.fr < (i : Int) ∧ x.room ≤ 40 ∧ x.lo ≤ x.hi ∧ x.hi ≤ 20) (hr : ∀ (i : Nat) x, d.rs[i]? = some x → x.v < d.vs.length ∧ x.sc ≤ 2 ∧ x.sh ≤ 60 ∧ x.er ≤ 9) (w : World) (hC : Cel w d) : Calls Tryd.prog 35 #[.pointer (some ⟨d.pc, 0, none⟩), .func (.func 36) #[] #[]] w fun e w' => e = .returned (.agg (St.cells (nowN d.vs d.rs)).toArray) ∧ Grew w w' [] := by
  obtain ⟨bv, ov, hvA, hbv, hcv⟩ := hC.hv (by omega)
  refine enter (N := 68) [(0, .pointer (some ⟨d.pc, 0, none⟩)), (1, .func (.func 36) #[] #[])] Tryd.func35 rfl Tryd.ntmps35 rfl rfl ?_
  refine cod_seq ?_
  refine cod_region ?_
  refine lst_alloc rfl F.ti72 ?_
  intro b4
  refine lst_nil ?_
  refine ex_then ?_
  refine cod_seq ?_
  refine cod_region ?_
  refine lst_alloc rfl F.ti72 ?_
  intro b5
  refine lst_nil ?_
  refine ex_then ?_
  refine cod_seq ?_
  refine cod_seq ?_
  refine cod_region ?_
  refine lst_move rfl rfl ?_
  refine lst_nilCheck rfl rfl ?_
  refine lst_field_z rfl rfl F.fi123_0 F.ti28 ?_
  refine lst_field_z rfl rfl F.fi28_0 F.ti25 ?_
  refine lst_load_at (v := .slice (some ⟨bv, ov, none⟩) d.vs.length d.vc) rfl rfl F.one25 (fun a w ha => by rw [← hvA]; exact (hC.later ha.below).c0) ?_
  refine lst_len rfl rfl Tryd.underlying25 ?_
  refine lst_move rfl rfl ?_
  refine lst_nil ?_
  refine ex_then ?_
  refine cod_block ?_
  refine cod_loop' (G := Nat) (fun g => g ≤ d.vs.length) (fun g => d.vs.length - g) (fun g => [(0, .pointer (some ⟨d.pc, 0, none⟩)), (1, .func (.func 36) #[] #[]), (4, .pointer (some ⟨b4, 0, none⟩)), (5, .pointer (some ⟨b5, 0, none⟩)), (14, .slice (some ⟨bv, ov, none⟩) d.vs.length d.vc), (15, .int .i64 (d.vs.length : Int)), (16, .int .i64 (g : Int))]) (fun g => [.blk b5 (.cells (St.cells ⟨nowL d.vs g, nowO d.vs g⟩).toArray 72 (0, 0)), .blk b4 (.cells (St.cells ⟨nowL d.vs 0, nowO d.vs 0⟩).toArray 72 (0, 0))]) (0) (Nat.zero_le _) (by repeat (first | exact Sub.nil _ | refine Sub.cons rfl ?_)) (by repeat (first | exact Pck.nil _ | exact Pck.refl _ | (apply Pck.cons; focus ((repeat (first | exact Rem.here _ | apply Rem.there)); done)) | refine Pck.skip _ ?_)) ?_
  rintro k hk
  (try dsimp only at hk ⊢)
  refine cod_seq ?_
  refine cod_region ?_
  refine lst_int rfl rfl rfl bin_lss ?_
  refine lst_nil ?_
  refine ex_then ?_
  refine cod_seq ?_
  refine cod_cond_dec rfl (fun hc0 => ?_) (fun hc0 => ?_)
  · skip
    have hk' : k < d.vs.length := by omega
    obtain ⟨x, hx⟩ : ∃ x, d.vs[k]? = some x := ⟨_, List.getElem?_eq_getElem hk'⟩
    have hxd := getD_of hx
    obtain ⟨hx1, hx2, hx3, hx4, hx5⟩ := hv k x hx
    refine cod_skip ?_
    refine ex_then ?_
    refine cod_seq ?_
    refine cod_block ?_
    refine cod_seq ?_
    refine cod_region ?_
    refine lst_move rfl rfl ?_
    refine lst_index (j := k) rfl rfl rfl Tryd.underlying25 F.ti56 rfl hk' ?_
    refine lst_loadN_at (l := [.int .i64 x.fr, .int .i64 (x.room : Int), .int .i64 (x.lo : Int), .int .i64 (x.hi : Int)]) rfl rfl F.agg56 F.ti56 rfl (fun a w ha j u hu => ha.old (hcv k x hx j u hu) hbv) ?_
    refine lst_alloc rfl F.ti56 ?_
    intro b7
    refine lst_assign rfl rfl ?_
    refine lst_store rfl rfl F.ti56 rfl ?_
    refine lst_nil ?_
    refine ex_then ?_
    refine any_begin [.b b5] F.follows 13 rfl [false, false, false, false, false, false, false, false, false, false, false, false, false] rfl ?_
    refine any_take (listed' := [true, false, false, false, false, false, false, false, false, false, false, false, false].toArray) 0 rfl rfl rfl (by kernel_rfl) (by kernel_rfl) (by kernel_rfl) (by repeat (first | exact List.Sublist.refl _ | exact List.nil_sublist _ | refine List.Sublist.cons_cons _ ?_ | refine List.Sublist.cons _ ?_)) (yld_move rfl) rfl ?_
    refine any_take (listed' := [true, true, false, false, false, false, false, false, false, false, false, false, false].toArray) 1 rfl rfl rfl (by kernel_rfl) (by kernel_rfl) (by kernel_rfl) (by repeat (first | exact List.Sublist.refl _ | exact List.nil_sublist _ | refine List.Sublist.cons_cons _ ?_ | refine List.Sublist.cons _ ?_)) (yld_move rfl) rfl ?_
    refine any_take (listed' := [true, true, true, false, false, false, false, false, false, false, false, false, false].toArray) 2 rfl rfl rfl (by kernel_rfl) (by kernel_rfl) (by kernel_rfl) (by repeat (first | exact List.Sublist.refl _ | exact List.nil_sublist _ | refine List.Sublist.cons_cons _ ?_ | refine List.Sublist.cons _ ?_)) (yld_field_z rfl F.fi56_1 F.ti3) rfl ?_
    refine any_take (listed' := [true, true, true, true, false, false, false, false, false, false, false, false, false].toArray) 3 rfl rfl rfl (by kernel_rfl) (by kernel_rfl) (by kernel_rfl) (by repeat (first | exact List.Sublist.refl _ | exact List.nil_sublist _ | refine List.Sublist.cons_cons _ ?_ | refine List.Sublist.cons _ ?_)) (yld_load rfl F.one3) rfl ?_
    refine any_take (listed' := [true, true, true, true, false, true, false, false, false, false, false, false, false].toArray) 5 rfl rfl rfl (by kernel_rfl) (by kernel_rfl) (by kernel_rfl) (by repeat (first | exact List.Sublist.refl _ | exact List.nil_sublist _ | refine List.Sublist.cons_cons _ ?_ | refine List.Sublist.cons _ ?_)) (yld_field_z rfl F.fi56_2 F.ti33) rfl ?_
    refine any_take (listed' := [true, true, true, true, false, true, true, false, false, false, false, false, false].toArray) 6 rfl rfl rfl (by kernel_rfl) (by kernel_rfl) (by kernel_rfl) (by repeat (first | exact List.Sublist.refl _ | exact List.nil_sublist _ | refine List.Sublist.cons_cons _ ?_ | refine List.Sublist.cons _ ?_)) (yld_loadN rfl F.agg33 F.ti33) rfl ?_
    refine any_take (listed' := [true, true, true, true, false, true, true, true, false, false, false, false, false].toArray) 7 rfl rfl rfl (by kernel_rfl) (by kernel_rfl) (by kernel_rfl) (by repeat (first | exact List.Sublist.refl _ | exact List.nil_sublist _ | refine List.Sublist.cons_cons _ ?_ | refine List.Sublist.cons _ ?_)) (yld_field_z rfl F.fi72_0 F.ti68) rfl ?_
    refine any_take (listed' := [true, true, true, true, false, true, true, true, false, false, true, false, false].toArray) 10 rfl rfl rfl (by kernel_rfl) (by kernel_rfl) (by kernel_rfl) (by repeat (first | exact List.Sublist.refl _ | exact List.nil_sublist _ | refine List.Sublist.cons_cons _ ?_ | refine List.Sublist.cons _ ?_)) (yld_field_z rfl F.fi72_1 F.ti70) rfl ?_
    refine any_one (listed' := [true, true, true, true, true, true, true, true, false, false, true, false, false].toArray) 4 (by kernel_rfl) rfl rfl ?_
    refine lst_fn0 (vs := [_, _]) rfl rfl F.ent52 (fun a w ha => span_c 0 (x.room : Int) w) ?_
    refine lst_nil ?_
    refine any_next (by repeat (first | exact List.Sublist.refl _ | exact List.nil_sublist _ | refine List.Sublist.cons_cons _ ?_ | refine List.Sublist.cons _ ?_)) ?_
    refine any_take (listed' := [true, true, true, true, true, true, true, true, true, false, true, false, false].toArray) 8 rfl rfl rfl (by kernel_rfl) (by kernel_rfl) (by kernel_rfl) (by repeat (first | exact List.Sublist.refl _ | exact List.nil_sublist _ | refine List.Sublist.cons_cons _ ?_ | refine List.Sublist.cons _ ?_)) (yld_index_arr (j := k) rfl rfl Tryd.underlying68 F.ti67 rfl (by omega)) rfl ?_
    refine any_one (listed' := [true, true, true, true, true, true, true, true, true, true, true, false, false].toArray) 9 (by kernel_rfl) rfl rfl ?_
    refine lst_store (hs := St.lim_set (s := ⟨nowL d.vs k, nowO d.vs k⟩) (nowL_len _ _) (by omega)) rfl rfl F.ti67 rfl ?_
    refine lst_nil ?_
    refine any_next (by repeat (first | exact List.Sublist.refl _ | exact List.nil_sublist _ | refine List.Sublist.cons_cons _ ?_ | refine List.Sublist.cons _ ?_)) ?_
    refine any_take (listed' := [true, true, true, true, true, true, true, true, true, true, true, true, false].toArray) 11 rfl rfl rfl (by kernel_rfl) (by kernel_rfl) (by kernel_rfl) (by repeat (first | exact List.Sublist.refl _ | exact List.nil_sublist _ | refine List.Sublist.cons_cons _ ?_ | refine List.Sublist.cons _ ?_)) (yld_index_arr (j := k) rfl rfl Tryd.underlying70 F.ti33 rfl (by omega)) rfl ?_
    refine any_one (listed' := [true, true, true, true, true, true, true, true, true, true, true, true, true].toArray) 12 (by kernel_rfl) rfl rfl ?_
    refine lst_store (hs := St.los_set (s := ⟨(nowL d.vs k).set k (spanN 0 (x.room : Int)), nowO d.vs k⟩) (by rw [List.length_set]; exact nowL_len _ _) (nowO_len _ _) (by omega)) rfl rfl F.ti33 rfl ?_
    refine lst_nil ?_
    refine any_next (by repeat (first | exact List.Sublist.refl _ | exact List.nil_sublist _ | refine List.Sublist.cons_cons _ ?_ | refine List.Sublist.cons _ ?_)) ?_
    refine any_done rfl (by kernel_rfl) ?_
    refine ex_block_normal ?_
    refine ex_then ?_
    refine cod_region ?_
    refine lst_int rfl rfl rfl (fun w => bin_add w (wrap_i64' _ (by omega) (by omega))) ?_
    refine lst_move rfl rfl ?_
    refine lst_nil ?_
    have e : (⟨(nowL d.vs k).set k (spanN 0 (x.room : Int)), (nowO d.vs k).set k (x.lo, x.hi)⟩ : St) = ⟨nowL d.vs (k + 1), nowO d.vs (k + 1)⟩ := by
      rw [← hxd]; rfl
    dsimp only
    rw [e]
    refine ex_round' (k + 1) (by omega) (by (try dsimp only); omega) (by repeat (first | exact Sub.nil _ | refine Sub.cons rfl ?_)) (by repeat (first | exact Pck.nil _ | exact Pck.refl _ | (apply Pck.cons; focus ((repeat (first | exact Rem.here _ | apply Rem.there)); done)) | refine Pck.skip _ ?_))
  · skip
    obtain rfl : k = d.vs.length := by omega
    refine cod_exit ?_
    refine ex_then_exit ?_
    refine ex_then_exit ?_
    refine ex_block_exit ?_
    refine ex_then ?_
    refine cod_seq ?_
    refine cod_seq ?_
    refine cod_region ?_
    refine lst_move rfl rfl ?_
    refine lst_nilCheck rfl rfl ?_
    refine lst_field_z rfl rfl F.fi123_0 F.ti28 ?_
    refine lst_field_z rfl rfl F.fi28_1 F.ti26 ?_
    refine lst_load_at (v := .slice d.rA d.rs.length d.rc) rfl rfl F.one26 (fun a w ha => (hC.later ha.below).c1) ?_
    refine lst_len rfl rfl Tryd.underlying26 ?_
    refine lst_move rfl rfl ?_
    refine lst_nil ?_
    refine ex_then ?_
    refine cod_block ?_
    refine cod_loop' (G := Nat) (fun g => g ≤ d.rs.length) (fun g => d.rs.length - g) (fun g => [(0, .pointer (some ⟨d.pc, 0, none⟩)), (1, .func (.func 36) #[] #[]), (4, .pointer (some ⟨b4, 0, none⟩)), (5, .pointer (some ⟨b5, 0, none⟩)), (37, .slice d.rA d.rs.length d.rc), (38, .int .i64 (d.rs.length : Int)), (39, .int .i64 (g : Int))]) (fun g => [.blk b5 (.cells (St.cells ⟨readF d.rs (nowL d.vs d.vs.length) g, nowO d.vs d.vs.length⟩).toArray 72 (0, 0)), .blk b4 (.cells (St.cells ⟨nowL d.vs 0, nowO d.vs 0⟩).toArray 72 (0, 0))]) (0) (Nat.zero_le _) (by repeat (first | exact Sub.nil _ | refine Sub.cons rfl ?_)) (by repeat (first | exact Pck.nil _ | exact Pck.refl _ | (apply Pck.cons; focus ((repeat (first | exact Rem.here _ | apply Rem.there)); done)) | refine Pck.skip _ ?_)) ?_
    rintro k hk
    (try dsimp only at hk ⊢)
    refine cod_seq ?_
    refine cod_region ?_
    refine lst_int rfl rfl rfl bin_lss ?_
    refine lst_nil ?_
    refine ex_then ?_
    refine cod_seq ?_
    refine cod_cond_dec rfl (fun hc1 => ?_) (fun hc1 => ?_)
    · skip
      have hk' : k < d.rs.length := by omega
      obtain ⟨br, orr, hrA, hbr, hcr⟩ := hC.hr (by omega)
      obtain ⟨x, hx⟩ : ∃ x, d.rs[k]? = some x := ⟨_, List.getElem?_eq_getElem hk'⟩
      have hxd := getD_of hx
      obtain ⟨hx1, hx2, hx3, hx4⟩ := hr k x hx
      rw [hrA]
      have hlm : ∀ i, i < 6 → (readF d.rs (nowL d.vs d.vs.length) k).getD i 0 < 18446744073709551616 := fun i hi => Nat.lt_of_le_of_lt (readF_any (nowL_any hi (by omega)) k) (by decide)
      refine cod_skip ?_
      refine ex_then ?_
      refine cod_seq ?_
      refine cod_block ?_
      refine cod_seq ?_
      refine cod_region ?_
      refine lst_index (j := k) rfl rfl rfl Tryd.underlying26 F.ti59 rfl hk' ?_
      refine lst_loadN_at (l := [.int .i64 (x.v : Int), .int .i64 (x.sc : Int), .int .i64 (x.sh : Int), .int .i64 (x.er : Int)]) rfl rfl F.agg59 F.ti59 rfl (fun a w ha j u hu => ha.old (hcr k x hx j u hu) hbr) ?_
      refine lst_alloc rfl F.ti59 ?_
      intro b9
      refine lst_store rfl rfl F.ti59 rfl ?_
      refine lst_nil ?_
      refine ex_then ?_
      refine cod_seq ?_
      refine cod_region ?_
      refine lst_move rfl rfl ?_
      refine lst_loadN rfl rfl F.agg59 F.ti59 ?_
      refine lst_dyn0 (v := .bool false) (vs := [_]) rfl rfl rfl F.ent36 (fun a w ha => none_c x w) ?_
      refine lst_not rfl rfl ?_
      refine lst_nil ?_
      refine ex_then ?_
      refine cod_cond_true rfl ?_
      refine any_begin [.b b5] F.follows 20 rfl [false, false, false, false, false, false, false, false, false, false, false, false, false, false, false, false, false, false, false, false] rfl ?_
      refine any_take (listed' := [true, false, false, false, false, false, false, false, false, false, false, false, false, false, false, false, false, false, false, false].toArray) 0 rfl rfl rfl (by kernel_rfl) (by kernel_rfl) (by kernel_rfl) (by repeat (first | exact List.Sublist.refl _ | exact List.nil_sublist _ | refine List.Sublist.cons_cons _ ?_ | refine List.Sublist.cons _ ?_)) (yld_field_z rfl F.fi59_0 F.ti3) rfl ?_
      refine any_take (listed' := [true, true, false, false, false, false, false, false, false, false, false, false, false, false, false, false, false, false, false, false].toArray) 1 rfl rfl rfl (by kernel_rfl) (by kernel_rfl) (by kernel_rfl) (by repeat (first | exact List.Sublist.refl _ | exact List.nil_sublist _ | refine List.Sublist.cons_cons _ ?_ | refine List.Sublist.cons _ ?_)) (yld_load rfl F.one3) rfl ?_
      refine any_take (listed' := [true, true, true, false, false, false, false, false, false, false, false, false, false, false, false, false, false, false, false, false].toArray) 2 rfl rfl rfl (by kernel_rfl) (by kernel_rfl) (by kernel_rfl) (by repeat (first | exact List.Sublist.refl _ | exact List.nil_sublist _ | refine List.Sublist.cons_cons _ ?_ | refine List.Sublist.cons _ ?_)) (yld_field_z rfl F.fi72_0 F.ti68) rfl ?_
      refine any_take (listed' := [true, true, true, true, false, false, false, false, false, false, false, false, false, false, false, false, false, false, false, false].toArray) 3 rfl rfl rfl (by kernel_rfl) (by kernel_rfl) (by kernel_rfl) (by repeat (first | exact List.Sublist.refl _ | exact List.nil_sublist _ | refine List.Sublist.cons_cons _ ?_ | refine List.Sublist.cons _ ?_)) (yld_index_arr (j := x.v) rfl rfl Tryd.underlying68 F.ti67 rfl (by omega)) rfl ?_
      refine any_take (listed' := [true, true, true, true, false, true, false, false, false, false, false, false, false, false, false, false, false, false, false, false].toArray) 5 rfl rfl rfl (by kernel_rfl) (by kernel_rfl) (by kernel_rfl) (by repeat (first | exact List.Sublist.refl _ | exact List.nil_sublist _ | refine List.Sublist.cons_cons _ ?_ | refine List.Sublist.cons _ ?_)) (yld_field_z rfl F.fi59_2 F.ti3) rfl ?_
      refine any_take (listed' := [true, true, true, true, false, true, true, false, false, false, false, false, false, false, false, false, false, false, false, false].toArray) 6 rfl rfl rfl (by kernel_rfl) (by kernel_rfl) (by kernel_rfl) (by repeat (first | exact List.Sublist.refl _ | exact List.nil_sublist _ | refine List.Sublist.cons_cons _ ?_ | refine List.Sublist.cons _ ?_)) (yld_load rfl F.one3) rfl ?_
      refine any_take (listed' := [true, true, true, true, false, true, true, true, false, false, false, false, false, false, false, false, false, false, false, false].toArray) 7 rfl rfl rfl (by kernel_rfl) (by kernel_rfl) (by kernel_rfl) (by repeat (first | exact List.Sublist.refl _ | exact List.nil_sublist _ | refine List.Sublist.cons_cons _ ?_ | refine List.Sublist.cons _ ?_)) (yld_field_z rfl F.fi59_3 F.ti3) rfl ?_
      refine any_take (listed' := [true, true, true, true, false, true, true, true, true, false, false, false, false, false, false, false, false, false, false, false].toArray) 8 rfl rfl rfl (by kernel_rfl) (by kernel_rfl) (by kernel_rfl) (by repeat (first | exact List.Sublist.refl _ | exact List.nil_sublist _ | refine List.Sublist.cons_cons _ ?_ | refine List.Sublist.cons _ ?_)) (yld_load rfl F.one3) rfl ?_
      refine any_take (listed' := [true, true, true, true, false, true, true, true, true, true, false, false, false, false, false, false, false, false, false, false].toArray) 9 rfl rfl rfl (by kernel_rfl) (by kernel_rfl) (by kernel_rfl) (by repeat (first | exact List.Sublist.refl _ | exact List.nil_sublist _ | refine List.Sublist.cons_cons _ ?_ | refine List.Sublist.cons _ ?_)) (yld_int (v := .int .i64 ((x.sh : Int) - (x.er : Int))) rfl rfl (fun w => bin_sub w (wrap_i64' _ (by omega) (by omega)))) rfl ?_
      refine any_take (listed' := [true, true, true, true, false, true, true, true, true, true, true, false, false, false, false, false, false, false, false, false].toArray) 10 rfl rfl rfl (by kernel_rfl) (by kernel_rfl) (by kernel_rfl) (by repeat (first | exact List.Sublist.refl _ | exact List.nil_sublist _ | refine List.Sublist.cons_cons _ ?_ | refine List.Sublist.cons _ ?_)) (yld_field_z rfl F.fi59_2 F.ti3) rfl ?_
      refine any_take (listed' := [true, true, true, true, false, true, true, true, true, true, true, true, false, false, false, false, false, false, false, false].toArray) 11 rfl rfl rfl (by kernel_rfl) (by kernel_rfl) (by kernel_rfl) (by repeat (first | exact List.Sublist.refl _ | exact List.nil_sublist _ | refine List.Sublist.cons_cons _ ?_ | refine List.Sublist.cons _ ?_)) (yld_load rfl F.one3) rfl ?_
      refine any_take (listed' := [true, true, true, true, false, true, true, true, true, true, true, true, true, false, false, false, false, false, false, false].toArray) 12 rfl rfl rfl (by kernel_rfl) (by kernel_rfl) (by kernel_rfl) (by repeat (first | exact List.Sublist.refl _ | exact List.nil_sublist _ | refine List.Sublist.cons_cons _ ?_ | refine List.Sublist.cons _ ?_)) (yld_field_z rfl F.fi59_3 F.ti3) rfl ?_
      refine any_take (listed' := [true, true, true, true, false, true, true, true, true, true, true, true, true, true, false, false, false, false, false, false].toArray) 13 rfl rfl rfl (by kernel_rfl) (by kernel_rfl) (by kernel_rfl) (by repeat (first | exact List.Sublist.refl _ | exact List.nil_sublist _ | refine List.Sublist.cons_cons _ ?_ | refine List.Sublist.cons _ ?_)) (yld_load rfl F.one3) rfl ?_
      refine any_take (listed' := [true, true, true, true, false, true, true, true, true, true, true, true, true, true, true, false, false, false, false, false].toArray) 14 rfl rfl rfl (by kernel_rfl) (by kernel_rfl) (by kernel_rfl) (by repeat (first | exact List.Sublist.refl _ | exact List.nil_sublist _ | refine List.Sublist.cons_cons _ ?_ | refine List.Sublist.cons _ ?_)) (yld_int (v := .int .i64 ((x.sh : Int) + (x.er : Int))) rfl rfl (fun w => bin_add w (wrap_i64' _ (by omega) (by omega)))) rfl ?_
      refine any_take (listed' := [true, true, true, true, false, true, true, true, true, true, true, true, true, true, true, false, false, true, false, false].toArray) 17 rfl rfl rfl (by kernel_rfl) (by kernel_rfl) (by kernel_rfl) (by repeat (first | exact List.Sublist.refl _ | exact List.nil_sublist _ | refine List.Sublist.cons_cons _ ?_ | refine List.Sublist.cons _ ?_)) (yld_field_z rfl F.fi72_0 F.ti68) rfl ?_
      refine any_two (l1 := [true, true, true, true, true, true, true, true, true, true, true, true, true, true, true, false, false, true, false, false].toArray) (l2 := [true, true, true, true, false, true, true, true, true, true, true, true, true, true, true, true, false, true, false, false].toArray) 4 15 (by kernel_rfl) rfl rfl rfl rfl ?_ ?_
      · skip
        refine lst_load_at (v := .int .u64 (((readF d.rs (nowL d.vs d.vs.length) k).getD x.v 0 : Nat) : Int)) rfl rfl F.one67 (fun a w ha => cell_of_blk (ha.mem_blk (InB.mem (b := b5))) (St.lim_get (s := ⟨readF d.rs (nowL d.vs d.vs.length) k, nowO d.vs d.vs.length⟩) (by rw [readF_len, nowL_len]) (by omega))) ?_
        refine lst_nil ?_
        refine any_next (by repeat (first | exact List.Sublist.refl _ | exact List.nil_sublist _ | refine List.Sublist.cons_cons _ ?_ | refine List.Sublist.cons _ ?_)) ?_
        refine any_one (listed' := [true, true, true, true, true, true, true, true, true, true, true, true, true, true, true, true, false, true, false, false].toArray) 15 (by kernel_rfl) rfl rfl ?_
        refine lst_fn0 (vs := [_, _]) rfl rfl F.ent52 (fun a w ha => span_c ((x.sh : Int) - (x.er : Int)) ((x.sh : Int) + (x.er : Int)) w) ?_
        refine lst_nil ?_
        refine any_next (by repeat (first | exact List.Sublist.refl _ | exact List.nil_sublist _ | refine List.Sublist.cons_cons _ ?_ | refine List.Sublist.cons _ ?_)) ?_
        refine any_take (listed' := [true, true, true, true, true, true, true, true, true, true, true, true, true, true, true, true, true, true, false, false].toArray) 16 rfl rfl rfl (by kernel_rfl) (by kernel_rfl) (by kernel_rfl) (by repeat (first | exact List.Sublist.refl _ | exact List.nil_sublist _ | refine List.Sublist.cons_cons _ ?_ | refine List.Sublist.cons _ ?_)) (yld_int (v := .int .u64 (((readF d.rs (nowL d.vs d.vs.length) k).getD x.v 0 &&& spanN ((x.sh : Int) - (x.er : Int)) ((x.sh : Int) + (x.er : Int)) : Nat) : Int)) rfl rfl (fun w => bin_and w (u64_and _ _ (hlm _ (by omega)) (Nat.lt_of_le_of_lt (spanN_le _ _) (by decide))))) rfl ?_
        refine any_take (listed' := [true, true, true, true, true, true, true, true, true, true, true, true, true, true, true, true, true, true, true, false].toArray) 18 rfl rfl rfl (by kernel_rfl) (by kernel_rfl) (by kernel_rfl) (by repeat (first | exact List.Sublist.refl _ | exact List.nil_sublist _ | refine List.Sublist.cons_cons _ ?_ | refine List.Sublist.cons _ ?_)) (yld_index_arr (j := x.v) rfl rfl Tryd.underlying68 F.ti67 rfl (by omega)) rfl ?_
        refine any_one (listed' := [true, true, true, true, true, true, true, true, true, true, true, true, true, true, true, true, true, true, true, true].toArray) 19 (by kernel_rfl) rfl rfl ?_
        refine lst_store (hs := St.lim_set (s := ⟨readF d.rs (nowL d.vs d.vs.length) k, nowO d.vs d.vs.length⟩) (by rw [readF_len, nowL_len]) (by omega)) rfl rfl F.ti67 rfl ?_
        refine lst_nil ?_
        refine any_next (by repeat (first | exact List.Sublist.refl _ | exact List.nil_sublist _ | refine List.Sublist.cons_cons _ ?_ | refine List.Sublist.cons _ ?_)) ?_
        refine any_done rfl (by kernel_rfl) ?_
        refine ex_block_normal ?_
        refine ex_then ?_
        refine cod_region ?_
        refine lst_int rfl rfl rfl (fun w => bin_add w (wrap_i64' _ (by omega) (by omega))) ?_
        refine lst_move rfl rfl ?_
        refine lst_nil ?_
        have e : (readF d.rs (nowL d.vs d.vs.length) k).set x.v ((readF d.rs (nowL d.vs d.vs.length) k).getD x.v 0 &&& spanN ((x.sh : Int) - (x.er : Int)) ((x.sh : Int) + (x.er : Int))) = readF d.rs (nowL d.vs d.vs.length) (k + 1) := by
          rw [← hxd]; rfl
        dsimp only
        rw [e]
        refine ex_round' (k + 1) (by omega) (by (try dsimp only); omega) (by (try rw [hrA]); repeat (first | exact Sub.nil _ | refine Sub.cons rfl ?_)) (by repeat (first | exact Pck.nil _ | exact Pck.refl _ | (apply Pck.cons; focus ((repeat (first | exact Rem.here _ | apply Rem.there)); done)) | refine Pck.skip _ ?_))
      · skip
        refine lst_fn0 (vs := [_, _]) rfl rfl F.ent52 (fun a w ha => span_c ((x.sh : Int) - (x.er : Int)) ((x.sh : Int) + (x.er : Int)) w) ?_
        refine lst_nil ?_
        refine any_next (by repeat (first | exact List.Sublist.refl _ | exact List.nil_sublist _ | refine List.Sublist.cons_cons _ ?_ | refine List.Sublist.cons _ ?_)) ?_
        refine any_one (listed' := [true, true, true, true, true, true, true, true, true, true, true, true, true, true, true, true, false, true, false, false].toArray) 4 (by kernel_rfl) rfl rfl ?_
        refine lst_load_at (v := .int .u64 (((readF d.rs (nowL d.vs d.vs.length) k).getD x.v 0 : Nat) : Int)) rfl rfl F.one67 (fun a w ha => cell_of_blk (ha.mem_blk (InB.mem (b := b5))) (St.lim_get (s := ⟨readF d.rs (nowL d.vs d.vs.length) k, nowO d.vs d.vs.length⟩) (by rw [readF_len, nowL_len]) (by omega))) ?_
        refine lst_nil ?_
        refine any_next (by repeat (first | exact List.Sublist.refl _ | exact List.nil_sublist _ | refine List.Sublist.cons_cons _ ?_ | refine List.Sublist.cons _ ?_)) ?_
        refine any_take (listed' := [true, true, true, true, true, true, true, true, true, true, true, true, true, true, true, true, true, true, false, false].toArray) 16 rfl rfl rfl (by kernel_rfl) (by kernel_rfl) (by kernel_rfl) (by repeat (first | exact List.Sublist.refl _ | exact List.nil_sublist _ | refine List.Sublist.cons_cons _ ?_ | refine List.Sublist.cons _ ?_)) (yld_int (v := .int .u64 (((readF d.rs (nowL d.vs d.vs.length) k).getD x.v 0 &&& spanN ((x.sh : Int) - (x.er : Int)) ((x.sh : Int) + (x.er : Int)) : Nat) : Int)) rfl rfl (fun w => bin_and w (u64_and _ _ (hlm _ (by omega)) (Nat.lt_of_le_of_lt (spanN_le _ _) (by decide))))) rfl ?_
        refine any_take (listed' := [true, true, true, true, true, true, true, true, true, true, true, true, true, true, true, true, true, true, true, false].toArray) 18 rfl rfl rfl (by kernel_rfl) (by kernel_rfl) (by kernel_rfl) (by repeat (first | exact List.Sublist.refl _ | exact List.nil_sublist _ | refine List.Sublist.cons_cons _ ?_ | refine List.Sublist.cons _ ?_)) (yld_index_arr (j := x.v) rfl rfl Tryd.underlying68 F.ti67 rfl (by omega)) rfl ?_
        refine any_one (listed' := [true, true, true, true, true, true, true, true, true, true, true, true, true, true, true, true, true, true, true, true].toArray) 19 (by kernel_rfl) rfl rfl ?_
        refine lst_store (hs := St.lim_set (s := ⟨readF d.rs (nowL d.vs d.vs.length) k, nowO d.vs d.vs.length⟩) (by rw [readF_len, nowL_len]) (by omega)) rfl rfl F.ti67 rfl ?_
        refine lst_nil ?_
        refine any_next (by repeat (first | exact List.Sublist.refl _ | exact List.nil_sublist _ | refine List.Sublist.cons_cons _ ?_ | refine List.Sublist.cons _ ?_)) ?_
        refine any_done rfl (by kernel_rfl) ?_
        refine ex_block_normal ?_
        refine ex_then ?_
        refine cod_region ?_
        refine lst_int rfl rfl rfl (fun w => bin_add w (wrap_i64' _ (by omega) (by omega))) ?_
        refine lst_move rfl rfl ?_
        refine lst_nil ?_
        have e : (readF d.rs (nowL d.vs d.vs.length) k).set x.v ((readF d.rs (nowL d.vs d.vs.length) k).getD x.v 0 &&& spanN ((x.sh : Int) - (x.er : Int)) ((x.sh : Int) + (x.er : Int))) = readF d.rs (nowL d.vs d.vs.length) (k + 1) := by
          rw [← hxd]; rfl
        dsimp only
        rw [e]
        refine ex_round' (k + 1) (by omega) (by (try dsimp only); omega) (by (try rw [hrA]); repeat (first | exact Sub.nil _ | refine Sub.cons rfl ?_)) (by repeat (first | exact Pck.nil _ | exact Pck.refl _ | (apply Pck.cons; focus ((repeat (first | exact Rem.here _ | apply Rem.there)); done)) | refine Pck.skip _ ?_))
    · skip
      obtain rfl : k = d.rs.length := by omega
      refine cod_exit ?_
      refine ex_then_exit ?_
      refine ex_then_exit ?_
      refine ex_block_exit ?_
      refine ex_then ?_
      refine cod_seq ?_
      refine cod_region ?_
      refine lst_loadN (l := St.cells (nowN d.vs d.rs)) (hv := ext_all (St.len (s := nowN d.vs d.rs) (nowN_l1 _ _) (nowN_l2 _ _))) rfl rfl F.agg72 F.ti72 ?_
      refine lst_store (hs := splice_all (m := St.cells (nowN d.vs d.rs)) (by rw [St.len (s := nowN d.vs d.rs) (nowN_l1 _ _) (nowN_l2 _ _)]; rfl)) rfl rfl F.ti72 (St.len (s := nowN d.vs d.rs) (nowN_l1 _ _) (nowN_l2 _ _)) ?_
      refine lst_nil ?_
      refine ex_then ?_
      refine cod_ret ?_
      exact ex_ret rfl (fun a w ha => res_cellN rfl rfl F.agg72 F.ti72 (St.len (s := nowN d.vs d.rs) (nowN_l1 _ _) (nowN_l2 _ _)) ha) (fun a w ha => ⟨rfl, ha.grown (List.nil_sublist _)⟩)

end Go.Proofs.YthkbagikmbcphaaDoor.N
namespace Go.Proofs.YthkbagikmbcphaaDoor.N
open Go Go.RowKit Go.Proofs
theorem F.agg68 : aggB Tryd.prog 68 = true := by unfold aggB; rw [Tryd.underlying68]
theorem F.ent53 : Enters Tryd.prog 53 := enters_of Tryd.func53 rfl (by kernel_rfl)
theorem F.ent67 : Enters Tryd.prog 67 := enters_of Tryd.func67 rfl (by kernel_rfl)
theorem F.fi123_1 : FI Tryd.prog 123 1 121 2 := ⟨_, _, Tryd.underlying123, rfl, rfl, rfl⟩
theorem F.fi126_1 : FI Tryd.prog 126 1 3 4 := ⟨_, _, Tryd.underlying126, rfl, rfl, rfl⟩
theorem F.fi126_2 : FI Tryd.prog 126 2 121 5 := ⟨_, _, Tryd.underlying126, rfl, rfl, rfl⟩
theorem F.one121 : One Tryd.prog 121 := ⟨by unfold aggB; rw [Tryd.underlying121], by rw [Tryd.underlying121]; simp⟩
theorem F.one124 : One Tryd.prog 124 := ⟨by unfold aggB; rw [Tryd.underlying124], by rw [Tryd.underlying124]; simp⟩
theorem F.pl94 : Places Tryd.prog 94 [(0, 1)] := .inl ⟨_, Tryd.underlying94, by kernel_rfl⟩
theorem F.ti121 : TI Tryd.prog 121 (.slice none 0 0) 1 24 := TI.of (by kernel_rfl)
theorem F.ti124 : TI Tryd.prog 124 (.pointer none) 1 8 := TI.of (by kernel_rfl)
theorem F.ti94 : TI Tryd.prog 94 (.agg [.int .i64 0].toArray) 1 8 := TI.of (by kernel_rfl)
theorem up_c (d : Cd) (s : St) (hs1 : s.lim.length = 6) (hs2 : s.los.length = 6) (hs3 : ∀ n ∈ s.lim, n ≤ anyN) (_hs4 : ∀ x ∈ s.los, x.1 ≤ 1000 ∧ x.2 ≤ 1000) (hn1 : 1 ≤ d.vs.length) (hn6 : d.vs.length ≤ 6) (_hr6 : d.rs.length ≤ 6) (hv : ∀ (i : Nat) x, d.vs[i]? = some x → -1 ≤ x.fr ∧ x.fr < (i : Int) ∧ x.room ≤ 40 ∧ x.lo ≤ x.hi ∧ x.hi ≤ 20) (_hr : ∀ (i : Nat) x, d.rs[i]? = some x → x.v < d.vs.length ∧ x.sc ≤ 2 ∧ x.sh ≤ 60 ∧ x.er ≤ 9) (w : World) (hC : Cel w d) : Calls Tryd.prog 53 #[.pointer (some ⟨d.pc, 0, none⟩), .agg (St.cells s).toArray] w fun e w' => e = .returned (.agg (ucells (upN d.vs s)).toArray) ∧ Grew w w' [] := by
  obtain ⟨bt, ot, htA, hbt, hct⟩ := hC.ht (by rw [hC.n]; omega)
  have hlim : ∀ i, i < 6 → s.lim.getD i 0 < 18446744073709551616 := fun i hi => Nat.lt_of_le_of_lt (hs3 _ (by rw [List.getD_eq_getElem?_getD, List.getElem?_eq_getElem (by omega)]; exact List.getElem_mem (by omega))) (by decide)
  refine enter (N := 77) [(0, .pointer (some ⟨d.pc, 0, none⟩)), (1, .agg (St.cells s).toArray)] Tryd.func53 rfl Tryd.ntmps53 rfl rfl ?_
  refine cod_seq ?_
  refine cod_region ?_
  refine lst_box rfl rfl ?_
  intro b3
  refine lst_alloc rfl F.ti68 ?_
  intro b4
  refine lst_nil ?_
  refine ex_then ?_
  refine cod_seq ?_
  refine cod_region ?_
  refine lst_alloc rfl F.ti68 ?_
  intro b5
  refine lst_nil ?_
  refine ex_then ?_
  refine cod_seq ?_
  refine cod_seq ?_
  refine cod_region ?_
  refine lst_move rfl rfl ?_
  refine lst_nilCheck rfl rfl ?_
  refine lst_field_z rfl rfl F.fi123_1 F.ti121 ?_
  refine lst_load_at (v := .slice (some ⟨bt, ot, none⟩) d.vs.length d.tc) rfl rfl F.one121 (fun a w ha => by rw [← htA]; exact (hC.later ha.below).c2) ?_
  refine lst_len rfl rfl Tryd.underlying121 ?_
  refine lst_int (v := .int .i64 ((d.vs.length : Int) - 1 - ((0 : Nat) : Int))) rfl rfl rfl (fun w => bin_sub w (by rw [wrap_i64' _ (by omega) (by omega)]; omega)) ?_
  refine lst_assign rfl rfl ?_
  refine lst_nil ?_
  refine ex_then ?_
  refine cod_block ?_
  refine cod_loop' (G := Nat) (fun g => g ≤ d.vs.length) (fun g => d.vs.length - g) (fun g => [(0, .pointer (some ⟨d.pc, 0, none⟩)), (3, .pointer (some ⟨b3, 0, none⟩)), (4, .pointer (some ⟨b4, 0, none⟩)), (5, .pointer (some ⟨b5, 0, none⟩)), (6, .int .i64 ((d.vs.length : Int) - 1 - (g : Int)))]) (fun g => [.blk b5 (.cells (ucells (upD d.vs s g)).toArray 68 (0, 0)), .blk b4 (.cells (ucells (upD d.vs s 0)).toArray 68 (0, 0)), .blk b3 (.cells (St.cells s).toArray 72 (0, 0))]) (0) (Nat.zero_le _) (by repeat (first | exact Sub.nil _ | refine Sub.cons rfl ?_)) (by repeat (first | exact Pck.nil _ | exact Pck.refl _ | (apply Pck.cons; focus ((repeat (first | exact Rem.here _ | apply Rem.there)); done)) | refine Pck.skip _ ?_)) ?_
  rintro k hk
  (try dsimp only at hk ⊢)
  refine cod_seq ?_
  refine cod_seq ?_
  refine cod_region ?_
  refine lst_move rfl rfl ?_
  refine lst_int rfl rfl rfl bin_geq ?_
  refine lst_nil ?_
  refine ex_then ?_
  refine cod_cond_dec rfl (fun hc0 => ?_) (fun hc0 => ?_)
  · skip
    have hk' : k < d.vs.length := by omega
    obtain ⟨i, hid⟩ : ∃ i, d.vs.length - 1 - k = i := ⟨_, rfl⟩
    have hieq : (d.vs.length : Int) - 1 - (k : Int) = (i : Int) := by omega
    rw [hieq]
    have hi6 : i < 6 := by omega
    have hil : i < d.vs.length := by omega
    obtain ⟨t, ht⟩ : ∃ t, d.tps[i]? = some t := ⟨_, List.getElem?_eq_getElem (by rw [hC.n]; omega)⟩
    obtain ⟨htl, ht4, ht5, htf⟩ := hC.tun i t ht
    have hul := upD_len d.vs s k
    have hkl := kids_len d.vs i
    refine cod_skip ?_
    refine ex_then ?_
    refine cod_seq ?_
    refine cod_block ?_
    refine cod_seq ?_
    refine cod_region ?_
    refine lst_move rfl rfl ?_
    refine lst_move rfl rfl ?_
    refine lst_field_z rfl rfl F.fi72_0 F.ti68 ?_
    refine lst_index_arr (j := i) rfl rfl rfl Tryd.underlying68 F.ti67 rfl hi6 ?_
    refine lst_load_at (v := .int .u64 ((s.lim.getD i 0 : Nat) : Int)) rfl rfl F.one67 (fun a w ha => cell_of_blk (ha.mem_blk (InB.mem (b := b3))) (St.lim_get hs1 hi6)) ?_
    refine lst_index_arr (j := i) rfl rfl rfl Tryd.underlying68 F.ti67 rfl hi6 ?_
    refine lst_store (hs := splice_u0 (by omega)) rfl rfl F.ti67 rfl ?_
    refine lst_nil ?_
    refine ex_then ?_
    refine cod_seq ?_
    refine cod_region ?_
    refine lst_move rfl rfl ?_
    refine lst_nilCheck rfl rfl ?_
    refine lst_field_z rfl rfl F.fi123_1 F.ti121 ?_
    refine lst_load_at (v := .slice (some ⟨bt, ot, none⟩) d.vs.length d.tc) rfl rfl F.one121 (fun a w ha => by rw [← htA]; exact (hC.later ha.below).c2) ?_
    refine lst_move rfl rfl ?_
    refine lst_index (j := i) rfl rfl rfl Tryd.underlying121 F.ti124 rfl hil ?_
    refine lst_load_at (v := .pointer (some ⟨t, 0, none⟩)) rfl rfl F.one124 (fun a w ha => ha.old (hct i t ht 0 _ rfl) hbt) ?_
    refine lst_assign rfl rfl ?_
    refine lst_nil ?_
    refine ex_then ?_
    refine cod_seq ?_
    refine cod_seq ?_
    refine cod_region ?_
    refine lst_move rfl rfl ?_
    refine lst_nilCheck rfl rfl ?_
    refine lst_field rfl rfl F.fi126_2 F.ti121 ?_
    refine lst_load_at (v := .slice (d.fA i) (kids d.vs i).length (d.fc i)) rfl rfl F.one121 (fun a w ha => ha.old ht5 htl) ?_
    refine lst_len rfl rfl Tryd.underlying121 ?_
    refine lst_int rfl rfl rfl bin_eql ?_
    refine lst_nil ?_
    refine ex_then ?_
    refine cod_cond_dec rfl (fun hc1 => ?_) (fun hc1 => ?_)
    · skip
      have hk0 : kids d.vs i = [] := List.length_eq_zero_iff.1 (by omega)
      have hst : (upD d.vs s k).set i (s.lim.getD i 0) = upD d.vs s (k + 1) := by
        show _ = upStep d.vs s (upD d.vs s k) (d.vs.length - 1 - k)
        rw [hid]; unfold upStep; rw [if_pos hk0]
      rw [hst]
      refine cod_exit ?_
      refine ex_then_exit ?_
      refine ex_block_exit ?_
      refine ex_then ?_
      refine cod_region ?_
      refine lst_move rfl rfl ?_
      refine lst_int (v := .int .i64 ((i : Int) - 1)) rfl rfl rfl (fun w => bin_sub w (wrap_i64' _ (by omega) (by omega))) ?_
      refine lst_assign rfl rfl ?_
      refine lst_nil ?_
      refine ex_round' (k + 1) (by omega) (by (try dsimp only); omega) (by (try dsimp only); rw [show (d.vs.length : Int) - 1 - ((k + 1 : Nat) : Int) = (i : Int) - 1 by omega]; repeat (first | exact Sub.nil _ | refine Sub.cons rfl ?_)) (by repeat (first | exact Pck.nil _ | exact Pck.refl _ | (apply Pck.cons; focus ((repeat (first | exact Rem.here _ | apply Rem.there)); done)) | refine Pck.skip _ ?_))
    · skip
      have hk1 : 0 < (kids d.vs i).length := by omega
      obtain ⟨bf, off, hfA, hbf, hcf⟩ := htf (by rw [List.length_map]; exact hk1)
      refine cod_skip ?_
      refine ex_then ?_
      refine cod_seq ?_
      refine cod_region ?_
      refine lst_assign rfl rfl ?_
      refine lst_nil ?_
      refine ex_then ?_
      refine cod_seq ?_
      refine cod_seq ?_
      refine cod_region ?_
      refine lst_move rfl rfl ?_
      refine lst_nilCheck rfl rfl ?_
      refine lst_field rfl rfl F.fi126_2 F.ti121 ?_
      refine lst_load_at (v := .slice (some ⟨bf, off, none⟩) (kids d.vs i).length (d.fc i)) rfl rfl F.one121 (fun a w ha => by rw [← hfA]; exact ha.old ht5 htl) ?_
      refine lst_len rfl rfl Tryd.underlying121 ?_
      refine lst_move rfl rfl ?_
      refine lst_nil ?_
      refine ex_then ?_
      refine cod_block ?_
      refine cod_loop' (G := Nat) (fun g => g ≤ (kids d.vs i).length) (fun g => (kids d.vs i).length - g) (fun g => [(0, .pointer (some ⟨d.pc, 0, none⟩)), (3, .pointer (some ⟨b3, 0, none⟩)), (4, .pointer (some ⟨b4, 0, none⟩)), (5, .pointer (some ⟨b5, 0, none⟩)), (6, .int .i64 (i : Int)), (7, .pointer (some ⟨t, 0, none⟩)), (8, .int .u64 (((((kids d.vs i).take g).foldl (fun s0 k0 => plusN s0 ((upD d.vs s k).getD k0 0)) 1) : Nat) : Int)), (43, .slice (some ⟨bf, off, none⟩) (kids d.vs i).length (d.fc i)), (44, .int .i64 ((kids d.vs i).length : Int)), (45, .int .i64 (g : Int))]) (fun g => [.blk b5 (.cells (ucells (((upD d.vs s k).set i (s.lim.getD i 0)))).toArray 68 (0, 0)), .blk b4 (.cells (ucells (upD d.vs s 0)).toArray 68 (0, 0)), .blk b3 (.cells (St.cells s).toArray 72 (0, 0))]) (0) (Nat.zero_le _) (by repeat (first | exact Sub.nil _ | refine Sub.cons rfl ?_)) (by repeat (first | exact Pck.nil _ | exact Pck.refl _ | (apply Pck.cons; focus ((repeat (first | exact Rem.here _ | apply Rem.there)); done)) | refine Pck.skip _ ?_)) ?_
      rintro q hq
      (try dsimp only at hq ⊢)
      refine cod_seq ?_
      refine cod_region ?_
      refine lst_int rfl rfl rfl bin_lss ?_
      refine lst_nil ?_
      refine ex_then ?_
      refine cod_seq ?_
      refine cod_cond_dec rfl (fun hc2 => ?_) (fun hc2 => ?_)
      · skip
        have hq' : q < (kids d.vs i).length := by omega
        obtain ⟨kd, hkd⟩ : ∃ x, (kids d.vs i)[q]? = some x := ⟨_, List.getElem?_eq_getElem hq'⟩
        obtain ⟨hkn, hkf⟩ := kids_lt (List.mem_of_getElem? hkd)
        have hki : i < kd := by
          have h1 := hv kd (d.vs.getD kd default) (by rw [List.getD_eq_getElem?_getD, List.getElem?_eq_getElem hkn]; rfl)
          omega
        have hkg : d.tps[kd]? = some (d.tps.getD kd 0) := getD_some' (by rw [hC.n]; exact hkn)
        obtain ⟨hkl2, hk4, _, _⟩ := hC.tun kd _ hkg
        have hmap : ((kids d.vs i).map fun k => d.tps.getD k 0)[q]? = some (d.tps.getD kd 0) := by rw [List.getElem?_map, hkd]; rfl
        have hsm := sums_le (upD d.vs s k) ((kids d.vs i).take q)
        have hgk : ((upD d.vs s k).set i (s.lim.getD i 0)).getD kd 0 = (upD d.vs s k).getD kd 0 := by rw [getN_set' (by omega), if_neg (by omega)]
        refine cod_skip ?_
        refine ex_then ?_
        refine cod_seq ?_
        refine cod_block ?_
        refine cod_seq ?_
        refine cod_region ?_
        refine lst_index (j := q) rfl rfl rfl Tryd.underlying121 F.ti124 rfl hq' ?_
        refine lst_load_at (v := .pointer (some ⟨d.tps.getD kd 0, 0, none⟩)) rfl rfl F.one124 (fun a w ha => ha.old (hcf q _ hmap 0 _ rfl) hbf) ?_
        refine lst_assign rfl rfl ?_
        refine lst_nil ?_
        refine ex_then ?_
        refine cod_region ?_
        refine lst_move rfl rfl ?_
        refine lst_move rfl rfl ?_
        refine lst_nilCheck rfl rfl ?_
        refine lst_field rfl rfl F.fi126_1 F.ti3 ?_
        refine lst_load_at (v := .int .i64 (kd : Int)) rfl rfl F.one3 (fun a w ha => ha.old hk4 hkl2) ?_
        refine lst_index_arr (j := kd) rfl rfl rfl Tryd.underlying68 F.ti67 rfl (by omega) ?_
        refine lst_load_at (v := .int .u64 (((upD d.vs s k).getD kd 0 : Nat) : Int)) rfl rfl F.one67 (fun a w ha => cell_of_blk (ha.mem_blk (InB.mem (b := b5))) (by rw [Nat.zero_add, Nat.mul_one, ← hgk]; exact ucells_get (by rw [List.length_set]; omega))) ?_
        refine lst_fn0 (vs := [_, _]) rfl rfl F.ent67 (fun a w ha => plus_c (((kids d.vs i).take q).foldl (fun s0 k0 => plusN s0 ((upD d.vs s k).getD k0 0)) 1) ((upD d.vs s k).getD kd 0) (Nat.lt_of_le_of_lt hsm (by decide)) w) ?_
        refine lst_assign rfl rfl ?_
        refine lst_nil ?_
        refine ex_block_normal ?_
        refine ex_then ?_
        refine cod_region ?_
        refine lst_int rfl rfl rfl (fun w => bin_add w (wrap_i64' _ (by omega) (by omega))) ?_
        refine lst_move rfl rfl ?_
        refine lst_nil ?_
        have e : plusN (((kids d.vs i).take q).foldl (fun s0 k0 => plusN s0 ((upD d.vs s k).getD k0 0)) 1) ((upD d.vs s k).getD kd 0) = (((kids d.vs i).take (q + 1)).foldl (fun s0 k0 => plusN s0 ((upD d.vs s k).getD k0 0)) 1) := by rw [List.take_add_one, hkd, List.foldl_append]; rfl
        rw [e]
        refine ex_round' (q + 1) (by omega) (by (try dsimp only); omega) (by repeat (first | exact Sub.nil _ | refine Sub.cons rfl ?_)) (by repeat (first | exact Pck.nil _ | exact Pck.refl _ | (apply Pck.cons; focus ((repeat (first | exact Rem.here _ | apply Rem.there)); done)) | refine Pck.skip _ ?_))
      · skip
        obtain rfl : q = (kids d.vs i).length := by omega
        rw [List.take_length]
        have hsm := sums_le (upD d.vs s k) (kids d.vs i)
        have hg1 := ucells_get (l := ((upD d.vs s k).set i (s.lim.getD i 0))) (i := i) (by rw [List.length_set]; omega)
        rw [getN_set' (by omega), if_pos rfl] at hg1
        refine cod_exit ?_
        refine ex_then_exit ?_
        refine ex_then_exit ?_
        refine ex_block_exit ?_
        refine ex_then ?_
        refine any_begin [.b b5] F.follows 19 rfl [false, false, false, false, false, false, false, false, false, false, false, false, false, false, false, false, false, false, false] rfl ?_
        refine any_take (listed' := [true, false, false, false, false, false, false, false, false, false, false, false, false, false, false, false, false, false, false].toArray) 0 rfl rfl rfl (by kernel_rfl) (by kernel_rfl) (by kernel_rfl) (by repeat (first | exact List.Sublist.refl _ | exact List.nil_sublist _ | refine List.Sublist.cons_cons _ ?_ | refine List.Sublist.cons _ ?_)) (yld_move rfl) rfl ?_
        refine any_take (listed' := [true, true, false, false, false, false, false, false, false, false, false, false, false, false, false, false, false, false, false].toArray) 1 rfl rfl rfl (by kernel_rfl) (by kernel_rfl) (by kernel_rfl) (by repeat (first | exact List.Sublist.refl _ | exact List.nil_sublist _ | refine List.Sublist.cons_cons _ ?_ | refine List.Sublist.cons _ ?_)) (yld_index_arr (j := i) rfl rfl Tryd.underlying68 F.ti67 rfl hi6) rfl ?_
        refine any_take (listed' := [true, true, false, true, false, false, false, false, false, false, false, false, false, false, false, false, false, false, false].toArray) 3 rfl rfl rfl (by kernel_rfl) (by kernel_rfl) (by kernel_rfl) (by repeat (first | exact List.Sublist.refl _ | exact List.nil_sublist _ | refine List.Sublist.cons_cons _ ?_ | refine List.Sublist.cons _ ?_)) (yld_move rfl) rfl ?_
        refine any_take (listed' := [true, true, false, true, true, false, false, false, false, false, false, false, false, false, false, false, false, false, false].toArray) 4 rfl rfl rfl (by kernel_rfl) (by kernel_rfl) (by kernel_rfl) (by repeat (first | exact List.Sublist.refl _ | exact List.nil_sublist _ | refine List.Sublist.cons_cons _ ?_ | refine List.Sublist.cons _ ?_)) (yld_move rfl) rfl ?_
        refine any_take (listed' := [true, true, false, true, true, true, false, false, false, false, false, false, false, false, false, false, false, false, false].toArray) 5 rfl rfl rfl (by kernel_rfl) (by kernel_rfl) (by kernel_rfl) (by repeat (first | exact List.Sublist.refl _ | exact List.nil_sublist _ | refine List.Sublist.cons_cons _ ?_ | refine List.Sublist.cons _ ?_)) (yld_field_z rfl F.fi72_1 F.ti70) rfl ?_
        refine any_take (listed' := [true, true, false, true, true, true, true, false, false, false, false, false, false, false, false, false, false, false, false].toArray) 6 rfl rfl rfl (by kernel_rfl) (by kernel_rfl) (by kernel_rfl) (by repeat (first | exact List.Sublist.refl _ | exact List.nil_sublist _ | refine List.Sublist.cons_cons _ ?_ | refine List.Sublist.cons _ ?_)) (yld_index_arr (j := i) rfl rfl Tryd.underlying70 F.ti33 rfl hi6) rfl ?_
        refine any_take (listed' := [true, true, false, true, true, true, true, true, false, false, false, false, false, false, false, false, false, false, false].toArray) 7 rfl rfl rfl (by kernel_rfl) (by kernel_rfl) (by kernel_rfl) (by repeat (first | exact List.Sublist.refl _ | exact List.nil_sublist _ | refine List.Sublist.cons_cons _ ?_ | refine List.Sublist.cons _ ?_)) (yld_field rfl F.fi33_0 F.ti3) rfl ?_
        refine any_take (listed' := [true, true, false, true, true, true, true, true, true, false, false, false, false, false, false, false, false, false, false].toArray) 8 rfl rfl rfl (by kernel_rfl) (by kernel_rfl) (by kernel_rfl) (by repeat (first | exact List.Sublist.refl _ | exact List.nil_sublist _ | refine List.Sublist.cons_cons _ ?_ | refine List.Sublist.cons _ ?_)) (yld_load_at (v := .int .i64 (((s.los.getD i (0, 0)).1 : Nat) : Int)) rfl F.one3 (fun a w ha => cell_of_blk (ha.mem_blk (InB.mem (b := b3))) (St.los_get hs1 hs2 hi6 (j := 0) rfl))) rfl ?_
        refine any_take (listed' := [true, true, false, true, true, true, true, true, true, true, false, false, false, false, false, false, false, false, false].toArray) 9 rfl rfl rfl (by kernel_rfl) (by kernel_rfl) (by kernel_rfl) (by repeat (first | exact List.Sublist.refl _ | exact List.nil_sublist _ | refine List.Sublist.cons_cons _ ?_ | refine List.Sublist.cons _ ?_)) (yld_move rfl) rfl ?_
        refine any_take (listed' := [true, true, false, true, true, true, true, true, true, true, true, false, false, false, false, false, false, false, false].toArray) 10 rfl rfl rfl (by kernel_rfl) (by kernel_rfl) (by kernel_rfl) (by repeat (first | exact List.Sublist.refl _ | exact List.nil_sublist _ | refine List.Sublist.cons_cons _ ?_ | refine List.Sublist.cons _ ?_)) (yld_field_z rfl F.fi72_1 F.ti70) rfl ?_
        refine any_take (listed' := [true, true, false, true, true, true, true, true, true, true, true, true, false, false, false, false, false, false, false].toArray) 11 rfl rfl rfl (by kernel_rfl) (by kernel_rfl) (by kernel_rfl) (by repeat (first | exact List.Sublist.refl _ | exact List.nil_sublist _ | refine List.Sublist.cons_cons _ ?_ | refine List.Sublist.cons _ ?_)) (yld_index_arr (j := i) rfl rfl Tryd.underlying70 F.ti33 rfl hi6) rfl ?_
        refine any_take (listed' := [true, true, false, true, true, true, true, true, true, true, true, true, true, false, false, false, false, false, false].toArray) 12 rfl rfl rfl (by kernel_rfl) (by kernel_rfl) (by kernel_rfl) (by repeat (first | exact List.Sublist.refl _ | exact List.nil_sublist _ | refine List.Sublist.cons_cons _ ?_ | refine List.Sublist.cons _ ?_)) (yld_field rfl F.fi33_1 F.ti3) rfl ?_
        refine any_take (listed' := [true, true, false, true, true, true, true, true, true, true, true, true, true, true, false, false, false, false, false].toArray) 13 rfl rfl rfl (by kernel_rfl) (by kernel_rfl) (by kernel_rfl) (by repeat (first | exact List.Sublist.refl _ | exact List.nil_sublist _ | refine List.Sublist.cons_cons _ ?_ | refine List.Sublist.cons _ ?_)) (yld_load_at (v := .int .i64 (((s.los.getD i (0, 0)).2 : Nat) : Int)) rfl F.one3 (fun a w ha => cell_of_blk (ha.mem_blk (InB.mem (b := b3))) (St.los_get hs1 hs2 hi6 (j := 1) rfl))) rfl ?_
        refine any_two (l1 := [true, true, true, true, true, true, true, true, true, true, true, true, true, true, false, false, false, false, false].toArray) (l2 := [true, true, false, true, true, true, true, true, true, true, true, true, true, true, true, false, false, false, false].toArray) 2 14 (by kernel_rfl) rfl rfl rfl rfl ?_ ?_
        · skip
          refine lst_load_at (v := .int .u64 ((s.lim.getD i 0 : Nat) : Int)) rfl rfl F.one67 (fun a w ha => cell_of_blk (ha.mem_blk (InB.mem (b := b5))) (by rw [Nat.zero_add, Nat.mul_one]; exact hg1)) ?_
          refine lst_nil ?_
          refine any_next (by repeat (first | exact List.Sublist.refl _ | exact List.nil_sublist _ | refine List.Sublist.cons_cons _ ?_ | refine List.Sublist.cons _ ?_)) ?_
          refine any_one (listed' := [true, true, true, true, true, true, true, true, true, true, true, true, true, true, true, false, false, false, false].toArray) 14 (by kernel_rfl) rfl rfl ?_
          refine lst_fn0 (vs := [_, _]) rfl rfl F.ent52 (fun a w ha => span_c ((s.los.getD i (0, 0)).1 : Int) ((s.los.getD i (0, 0)).2 : Int) w) ?_
          refine lst_nil ?_
          refine any_next (by repeat (first | exact List.Sublist.refl _ | exact List.nil_sublist _ | refine List.Sublist.cons_cons _ ?_ | refine List.Sublist.cons _ ?_)) ?_
          refine any_one (listed' := [true, true, true, true, true, true, true, true, true, true, true, true, true, true, true, true, false, false, false].toArray) 15 (by kernel_rfl) rfl rfl ?_
          refine lst_fn0 (vs := [_, _]) rfl rfl F.ent67 (fun a w ha => plus_c (sumsF (upD d.vs s k) (kids d.vs i)) (spanN ((s.los.getD i (0, 0)).1 : Int) ((s.los.getD i (0, 0)).2 : Int)) (Nat.lt_of_le_of_lt hsm (by decide)) w) ?_
          refine lst_nil ?_
          refine any_next (by repeat (first | exact List.Sublist.refl _ | exact List.nil_sublist _ | refine List.Sublist.cons_cons _ ?_ | refine List.Sublist.cons _ ?_)) ?_
          refine any_take (listed' := [true, true, true, true, true, true, true, true, true, true, true, true, true, true, true, true, true, false, false].toArray) 16 rfl rfl rfl (by kernel_rfl) (by kernel_rfl) (by kernel_rfl) (by repeat (first | exact List.Sublist.refl _ | exact List.nil_sublist _ | refine List.Sublist.cons_cons _ ?_ | refine List.Sublist.cons _ ?_)) (yld_int (v := .int .u64 ((s.lim.getD i 0 &&& plusN (sumsF (upD d.vs s k) (kids d.vs i)) (spanN ((s.los.getD i (0, 0)).1 : Int) ((s.los.getD i (0, 0)).2 : Int)) : Nat) : Int)) rfl rfl (fun w => bin_and w (u64_and _ _ (hlim _ hi6) (Nat.lt_of_le_of_lt (plusN_le _ _) (by decide))))) rfl ?_
          refine any_take (listed' := [true, true, true, true, true, true, true, true, true, true, true, true, true, true, true, true, true, true, false].toArray) 17 rfl rfl rfl (by kernel_rfl) (by kernel_rfl) (by kernel_rfl) (by repeat (first | exact List.Sublist.refl _ | exact List.nil_sublist _ | refine List.Sublist.cons_cons _ ?_ | refine List.Sublist.cons _ ?_)) (yld_index_arr (j := i) rfl rfl Tryd.underlying68 F.ti67 rfl hi6) rfl ?_
          refine any_one (listed' := [true, true, true, true, true, true, true, true, true, true, true, true, true, true, true, true, true, true, true].toArray) 18 (by kernel_rfl) rfl rfl ?_
          refine lst_store (hs := splice_u0 (by rw [List.length_set]; omega)) rfl rfl F.ti67 rfl ?_
          refine lst_nil ?_
          refine any_next (by repeat (first | exact List.Sublist.refl _ | exact List.nil_sublist _ | refine List.Sublist.cons_cons _ ?_ | refine List.Sublist.cons _ ?_)) ?_
          refine any_done rfl (by kernel_rfl) ?_
          refine ex_block_normal ?_
          refine ex_then ?_
          refine cod_region ?_
          refine lst_move rfl rfl ?_
          refine lst_int (v := .int .i64 ((i : Int) - 1)) rfl rfl rfl (fun w => bin_sub w (wrap_i64' _ (by omega) (by omega))) ?_
          refine lst_assign rfl rfl ?_
          refine lst_nil ?_
          have hne : kids d.vs i ≠ [] := fun h => by rw [h] at hk1; exact absurd hk1 (Nat.lt_irrefl _)
          have hst : ∀ x y, (((upD d.vs s k).set i y).set i x) = (upD d.vs s k).set i x := fun x y => List.set_set ..
          have hst2 : (upD d.vs s k).set i (s.lim.getD i 0 &&& plusN (sumsF (upD d.vs s k) (kids d.vs i)) (spanN ((s.los.getD i (0, 0)).1 : Int) ((s.los.getD i (0, 0)).2 : Int))) = upD d.vs s (k + 1) := by
            show _ = upStep d.vs s (upD d.vs s k) (d.vs.length - 1 - k)
            rw [hid]; unfold upStep; rw [if_neg hne]
          rw [hst, hst2]
          refine ex_round' (k + 1) (by omega) (by (try dsimp only); omega) (by (try dsimp only); rw [show (d.vs.length : Int) - 1 - ((k + 1 : Nat) : Int) = (i : Int) - 1 by omega]; repeat (first | exact Sub.nil _ | refine Sub.cons rfl ?_)) (by repeat (first | exact Pck.nil _ | exact Pck.refl _ | (apply Pck.cons; focus ((repeat (first | exact Rem.here _ | apply Rem.there)); done)) | refine Pck.skip _ ?_))
        · skip
          refine lst_fn0 (vs := [_, _]) rfl rfl F.ent52 (fun a w ha => span_c ((s.los.getD i (0, 0)).1 : Int) ((s.los.getD i (0, 0)).2 : Int) w) ?_
          refine lst_nil ?_
          refine any_next (by repeat (first | exact List.Sublist.refl _ | exact List.nil_sublist _ | refine List.Sublist.cons_cons _ ?_ | refine List.Sublist.cons _ ?_)) ?_
          refine any_two (l1 := [true, true, true, true, true, true, true, true, true, true, true, true, true, true, true, false, false, false, false].toArray) (l2 := [true, true, false, true, true, true, true, true, true, true, true, true, true, true, true, true, false, false, false].toArray) 2 15 (by kernel_rfl) rfl rfl rfl rfl ?_ ?_
          · skip
            refine lst_load_at (v := .int .u64 ((s.lim.getD i 0 : Nat) : Int)) rfl rfl F.one67 (fun a w ha => cell_of_blk (ha.mem_blk (InB.mem (b := b5))) (by rw [Nat.zero_add, Nat.mul_one]; exact hg1)) ?_
            refine lst_nil ?_
            refine any_next (by repeat (first | exact List.Sublist.refl _ | exact List.nil_sublist _ | refine List.Sublist.cons_cons _ ?_ | refine List.Sublist.cons _ ?_)) ?_
            refine any_one (listed' := [true, true, true, true, true, true, true, true, true, true, true, true, true, true, true, true, false, false, false].toArray) 15 (by kernel_rfl) rfl rfl ?_
            refine lst_fn0 (vs := [_, _]) rfl rfl F.ent67 (fun a w ha => plus_c (sumsF (upD d.vs s k) (kids d.vs i)) (spanN ((s.los.getD i (0, 0)).1 : Int) ((s.los.getD i (0, 0)).2 : Int)) (Nat.lt_of_le_of_lt hsm (by decide)) w) ?_
            refine lst_nil ?_
            refine any_next (by repeat (first | exact List.Sublist.refl _ | exact List.nil_sublist _ | refine List.Sublist.cons_cons _ ?_ | refine List.Sublist.cons _ ?_)) ?_
            refine any_take (listed' := [true, true, true, true, true, true, true, true, true, true, true, true, true, true, true, true, true, false, false].toArray) 16 rfl rfl rfl (by kernel_rfl) (by kernel_rfl) (by kernel_rfl) (by repeat (first | exact List.Sublist.refl _ | exact List.nil_sublist _ | refine List.Sublist.cons_cons _ ?_ | refine List.Sublist.cons _ ?_)) (yld_int (v := .int .u64 ((s.lim.getD i 0 &&& plusN (sumsF (upD d.vs s k) (kids d.vs i)) (spanN ((s.los.getD i (0, 0)).1 : Int) ((s.los.getD i (0, 0)).2 : Int)) : Nat) : Int)) rfl rfl (fun w => bin_and w (u64_and _ _ (hlim _ hi6) (Nat.lt_of_le_of_lt (plusN_le _ _) (by decide))))) rfl ?_
            refine any_take (listed' := [true, true, true, true, true, true, true, true, true, true, true, true, true, true, true, true, true, true, false].toArray) 17 rfl rfl rfl (by kernel_rfl) (by kernel_rfl) (by kernel_rfl) (by repeat (first | exact List.Sublist.refl _ | exact List.nil_sublist _ | refine List.Sublist.cons_cons _ ?_ | refine List.Sublist.cons _ ?_)) (yld_index_arr (j := i) rfl rfl Tryd.underlying68 F.ti67 rfl hi6) rfl ?_
            refine any_one (listed' := [true, true, true, true, true, true, true, true, true, true, true, true, true, true, true, true, true, true, true].toArray) 18 (by kernel_rfl) rfl rfl ?_
            refine lst_store (hs := splice_u0 (by rw [List.length_set]; omega)) rfl rfl F.ti67 rfl ?_
            refine lst_nil ?_
            refine any_next (by repeat (first | exact List.Sublist.refl _ | exact List.nil_sublist _ | refine List.Sublist.cons_cons _ ?_ | refine List.Sublist.cons _ ?_)) ?_
            refine any_done rfl (by kernel_rfl) ?_
            refine ex_block_normal ?_
            refine ex_then ?_
            refine cod_region ?_
            refine lst_move rfl rfl ?_
            refine lst_int (v := .int .i64 ((i : Int) - 1)) rfl rfl rfl (fun w => bin_sub w (wrap_i64' _ (by omega) (by omega))) ?_
            refine lst_assign rfl rfl ?_
            refine lst_nil ?_
            have hne : kids d.vs i ≠ [] := fun h => by rw [h] at hk1; exact absurd hk1 (Nat.lt_irrefl _)
            have hst : ∀ x y, (((upD d.vs s k).set i y).set i x) = (upD d.vs s k).set i x := fun x y => List.set_set ..
            have hst2 : (upD d.vs s k).set i (s.lim.getD i 0 &&& plusN (sumsF (upD d.vs s k) (kids d.vs i)) (spanN ((s.los.getD i (0, 0)).1 : Int) ((s.los.getD i (0, 0)).2 : Int))) = upD d.vs s (k + 1) := by
              show _ = upStep d.vs s (upD d.vs s k) (d.vs.length - 1 - k)
              rw [hid]; unfold upStep; rw [if_neg hne]
            rw [hst, hst2]
            refine ex_round' (k + 1) (by omega) (by (try dsimp only); omega) (by (try dsimp only); rw [show (d.vs.length : Int) - 1 - ((k + 1 : Nat) : Int) = (i : Int) - 1 by omega]; repeat (first | exact Sub.nil _ | refine Sub.cons rfl ?_)) (by repeat (first | exact Pck.nil _ | exact Pck.refl _ | (apply Pck.cons; focus ((repeat (first | exact Rem.here _ | apply Rem.there)); done)) | refine Pck.skip _ ?_))
          · skip
            refine lst_fn0 (vs := [_, _]) rfl rfl F.ent67 (fun a w ha => plus_c (sumsF (upD d.vs s k) (kids d.vs i)) (spanN ((s.los.getD i (0, 0)).1 : Int) ((s.los.getD i (0, 0)).2 : Int)) (Nat.lt_of_le_of_lt hsm (by decide)) w) ?_
            refine lst_nil ?_
            refine any_next (by repeat (first | exact List.Sublist.refl _ | exact List.nil_sublist _ | refine List.Sublist.cons_cons _ ?_ | refine List.Sublist.cons _ ?_)) ?_
            refine any_one (listed' := [true, true, true, true, true, true, true, true, true, true, true, true, true, true, true, true, false, false, false].toArray) 2 (by kernel_rfl) rfl rfl ?_
            refine lst_load_at (v := .int .u64 ((s.lim.getD i 0 : Nat) : Int)) rfl rfl F.one67 (fun a w ha => cell_of_blk (ha.mem_blk (InB.mem (b := b5))) (by rw [Nat.zero_add, Nat.mul_one]; exact hg1)) ?_
            refine lst_nil ?_
            refine any_next (by repeat (first | exact List.Sublist.refl _ | exact List.nil_sublist _ | refine List.Sublist.cons_cons _ ?_ | refine List.Sublist.cons _ ?_)) ?_
            refine any_take (listed' := [true, true, true, true, true, true, true, true, true, true, true, true, true, true, true, true, true, false, false].toArray) 16 rfl rfl rfl (by kernel_rfl) (by kernel_rfl) (by kernel_rfl) (by repeat (first | exact List.Sublist.refl _ | exact List.nil_sublist _ | refine List.Sublist.cons_cons _ ?_ | refine List.Sublist.cons _ ?_)) (yld_int (v := .int .u64 ((s.lim.getD i 0 &&& plusN (sumsF (upD d.vs s k) (kids d.vs i)) (spanN ((s.los.getD i (0, 0)).1 : Int) ((s.los.getD i (0, 0)).2 : Int)) : Nat) : Int)) rfl rfl (fun w => bin_and w (u64_and _ _ (hlim _ hi6) (Nat.lt_of_le_of_lt (plusN_le _ _) (by decide))))) rfl ?_
            refine any_take (listed' := [true, true, true, true, true, true, true, true, true, true, true, true, true, true, true, true, true, true, false].toArray) 17 rfl rfl rfl (by kernel_rfl) (by kernel_rfl) (by kernel_rfl) (by repeat (first | exact List.Sublist.refl _ | exact List.nil_sublist _ | refine List.Sublist.cons_cons _ ?_ | refine List.Sublist.cons _ ?_)) (yld_index_arr (j := i) rfl rfl Tryd.underlying68 F.ti67 rfl hi6) rfl ?_
            refine any_one (listed' := [true, true, true, true, true, true, true, true, true, true, true, true, true, true, true, true, true, true, true].toArray) 18 (by kernel_rfl) rfl rfl ?_
            refine lst_store (hs := splice_u0 (by rw [List.length_set]; omega)) rfl rfl F.ti67 rfl ?_
            refine lst_nil ?_
            refine any_next (by repeat (first | exact List.Sublist.refl _ | exact List.nil_sublist _ | refine List.Sublist.cons_cons _ ?_ | refine List.Sublist.cons _ ?_)) ?_
            refine any_done rfl (by kernel_rfl) ?_
            refine ex_block_normal ?_
            refine ex_then ?_
            refine cod_region ?_
            refine lst_move rfl rfl ?_
            refine lst_int (v := .int .i64 ((i : Int) - 1)) rfl rfl rfl (fun w => bin_sub w (wrap_i64' _ (by omega) (by omega))) ?_
            refine lst_assign rfl rfl ?_
            refine lst_nil ?_
            have hne : kids d.vs i ≠ [] := fun h => by rw [h] at hk1; exact absurd hk1 (Nat.lt_irrefl _)
            have hst : ∀ x y, (((upD d.vs s k).set i y).set i x) = (upD d.vs s k).set i x := fun x y => List.set_set ..
            have hst2 : (upD d.vs s k).set i (s.lim.getD i 0 &&& plusN (sumsF (upD d.vs s k) (kids d.vs i)) (spanN ((s.los.getD i (0, 0)).1 : Int) ((s.los.getD i (0, 0)).2 : Int))) = upD d.vs s (k + 1) := by
              show _ = upStep d.vs s (upD d.vs s k) (d.vs.length - 1 - k)
              rw [hid]; unfold upStep; rw [if_neg hne]
            rw [hst, hst2]
            refine ex_round' (k + 1) (by omega) (by (try dsimp only); omega) (by (try dsimp only); rw [show (d.vs.length : Int) - 1 - ((k + 1 : Nat) : Int) = (i : Int) - 1 by omega]; repeat (first | exact Sub.nil _ | refine Sub.cons rfl ?_)) (by repeat (first | exact Pck.nil _ | exact Pck.refl _ | (apply Pck.cons; focus ((repeat (first | exact Rem.here _ | apply Rem.there)); done)) | refine Pck.skip _ ?_))
  · skip
    obtain rfl : k = d.vs.length := by omega
    have hul6 : (ucells (upN d.vs s)).length = 6 := by rw [ucells_len]; exact upD_len _ _ _
    refine cod_exit ?_
    refine ex_then_exit ?_
    refine ex_then_exit ?_
    refine ex_block_exit ?_
    refine ex_then ?_
    refine cod_seq ?_
    refine cod_region ?_
    refine lst_loadN (l := ucells (upN d.vs s)) (hv := ext_all hul6) rfl rfl F.agg68 F.ti68 ?_
    refine lst_store (hs := splice_all (m := ucells (upN d.vs s)) (by rw [hul6]; rfl)) rfl rfl F.ti68 hul6 ?_
    refine lst_nil ?_
    refine ex_then ?_
    refine cod_ret ?_
    exact ex_ret rfl (fun a w ha => res_cellN rfl rfl F.agg68 F.ti68 hul6 ha) (fun a w ha => ⟨rfl, ha.grown (List.nil_sublist _)⟩)

theorem settle_c (d : Cd) (s : St) (hs1 : s.lim.length = 6) (hs2 : s.los.length = 6) (hs3 : ∀ n ∈ s.lim, n ≤ anyN) (hs4 : ∀ x ∈ s.los, x.1 ≤ 1000 ∧ x.2 ≤ 1000) (hn1 : 1 ≤ d.vs.length) (hn6 : d.vs.length ≤ 6) (hr6 : d.rs.length ≤ 6) (hv : ∀ (i : Nat) x, d.vs[i]? = some x → -1 ≤ x.fr ∧ x.fr < (i : Int) ∧ x.room ≤ 40 ∧ x.lo ≤ x.hi ∧ x.hi ≤ 20) (hr : ∀ (i : Nat) x, d.rs[i]? = some x → x.v < d.vs.length ∧ x.sc ≤ 2 ∧ x.sh ≤ 60 ∧ x.er ≤ 9) (w : World) (hC : Cel w d) : Calls Tryd.prog 37 #[.pointer (some ⟨d.pc, 0, none⟩), .agg (St.cells s).toArray] w fun e w' => (okN d.vs s = true ∧ e = .returned .nilIface ∨ okN d.vs s = false ∧ ∃ i : Nat, e = .returned (.iface 94 (.agg [.int .i64 (i : Int)].toArray))) ∧ Grew w w' [] := by
  obtain ⟨bt, ot, htA, hbt, hct⟩ := hC.ht (by rw [hC.n]; omega)
  have hul6 : (ucells (upN d.vs s)).length = 6 := by rw [ucells_len]; exact upD_len _ _ _
  refine enter (N := 27) [(0, .pointer (some ⟨d.pc, 0, none⟩)), (1, .agg (St.cells s).toArray)] Tryd.func37 rfl Tryd.ntmps37 rfl rfl ?_
  refine cod_seq ?_
  refine cod_region ?_
  refine lst_box rfl rfl ?_
  intro b3
  refine lst_assign rfl rfl ?_
  refine lst_nil ?_
  refine ex_then ?_
  refine cod_seq ?_
  refine cod_region ?_
  refine lst_move rfl rfl ?_
  refine lst_loadN (l := St.cells s) (hv := ext_all (St.len hs1 hs2)) rfl rfl F.agg72 F.ti72 ?_
  refine lst_fn0 (v := .agg (ucells (upN d.vs s)).toArray) (vs := [_, _]) rfl rfl F.ent53 (fun a w ha => up_c d s hs1 hs2 hs3 hs4 hn1 hn6 hr6 hv hr w (hC.later ha.below)) ?_
  refine lst_alloc rfl F.ti68 ?_
  intro b5
  refine lst_store (hs := splice_all (m := ucells (upN d.vs s)) (by rw [hul6]; rfl)) rfl rfl F.ti68 hul6 ?_
  refine lst_nil ?_
  refine ex_then ?_
  refine cod_seq ?_
  refine cod_seq ?_
  refine cod_region ?_
  refine lst_move rfl rfl ?_
  refine lst_nilCheck rfl rfl ?_
  refine lst_field_z rfl rfl F.fi123_1 F.ti121 ?_
  refine lst_load_at (v := .slice (some ⟨bt, ot, none⟩) d.vs.length d.tc) rfl rfl F.one121 (fun a w ha => by rw [← htA]; exact (hC.later ha.below).c2) ?_
  refine lst_len rfl rfl Tryd.underlying121 ?_
  refine lst_int (v := .int .i64 ((d.vs.length : Int) - 1 - ((0 : Nat) : Int))) rfl rfl rfl (fun w => bin_sub w (by rw [wrap_i64' _ (by omega) (by omega)]; omega)) ?_
  refine lst_assign rfl rfl ?_
  refine lst_nil ?_
  refine ex_then ?_
  refine cod_block ?_
  refine cod_loop' (G := Nat) (fun g => g ≤ d.vs.length ∧ ∀ i, d.vs.length - g ≤ i → i < d.vs.length → (upN d.vs s).getD i 0 ≠ 0) (fun g => d.vs.length - g) (fun g => [(5, .pointer (some ⟨b5, 0, none⟩)), (6, .int .i64 ((d.vs.length : Int) - 1 - (g : Int)))]) (fun g => [.blk b5 (.cells (ucells (upN d.vs s)).toArray 68 (0, 0))]) (0) ⟨Nat.zero_le _, fun i h1 h2 => by omega⟩ (by repeat (first | exact Sub.nil _ | refine Sub.cons rfl ?_)) (by repeat (first | exact Pck.nil _ | exact Pck.refl _ | (apply Pck.cons; focus ((repeat (first | exact Rem.here _ | apply Rem.there)); done)) | refine Pck.skip _ ?_)) ?_
  rintro k ⟨hk, hno⟩
  (try dsimp only at hk hno ⊢)
  refine cod_seq ?_
  refine cod_seq ?_
  refine cod_region ?_
  refine lst_move rfl rfl ?_
  refine lst_int rfl rfl rfl bin_geq ?_
  refine lst_nil ?_
  refine ex_then ?_
  refine cod_cond_dec rfl (fun hc0 => ?_) (fun hc0 => ?_)
  · skip
    have hk' : k < d.vs.length := by omega
    obtain ⟨i, hid⟩ : ∃ i, d.vs.length - 1 - k = i := ⟨_, rfl⟩
    have hieq : (d.vs.length : Int) - 1 - (k : Int) = (i : Int) := by omega
    rw [hieq]
    have hi6 : i < 6 := by omega
    have hil : i < d.vs.length := by omega
    refine cod_skip ?_
    refine ex_then ?_
    refine cod_seq ?_
    refine cod_block ?_
    refine cod_seq ?_
    refine cod_region ?_
    refine lst_move rfl rfl ?_
    refine lst_index_arr (j := i) rfl rfl rfl Tryd.underlying68 F.ti67 rfl hi6 ?_
    refine lst_load_at (v := .int .u64 (((upN d.vs s).getD i 0 : Nat) : Int)) rfl rfl F.one67 (fun a w ha => cell_of_blk (ha.mem_blk (InB.mem (b := b5))) (by rw [Nat.zero_add, Nat.mul_one]; exact ucells_get (by rw [show (upN d.vs s).length = 6 from upD_len _ _ _]; exact hi6))) ?_
    refine lst_int rfl rfl rfl bin_eql ?_
    refine lst_nil ?_
    refine ex_then ?_
    refine cod_cond_dec rfl (fun hc1 => ?_) (fun hc1 => ?_)
    · skip
      refine cod_seq ?_
      refine cod_region ?_
      refine lst_move rfl rfl ?_
      refine lst_struct (vs := [(0, _)]) (l' := [_]) rfl rfl F.ti94 F.pl94 (.cons rfl rfl (.nil _)) rfl ?_
      refine lst_makeInterface rfl rfl Tryd.underlying94 rfl ?_
      refine lst_assign rfl rfl ?_
      refine lst_nil ?_
      refine ex_then ?_
      refine cod_ret ?_
      refine ex_block_ret ?_
      refine ex_then_ret ?_
      refine ex_then_ret ?_
      refine ex_block_ret ?_
      refine ex_then_ret ?_
      refine ex_ret rfl (fun a w ha => res_one rfl rfl ha) (fun a w ha => ⟨.inr ⟨?_, i, rfl⟩, ha.grown (List.nil_sublist _)⟩)
      unfold okN
      rw [List.all_eq_false]
      have h0 : (upN d.vs s).getD i 0 = 0 := by omega
      exact ⟨i, List.mem_range.2 hil, by rw [h0]; decide⟩
    · skip
      refine cod_skip ?_
      refine ex_block_normal ?_
      refine ex_then ?_
      refine cod_region ?_
      refine lst_move rfl rfl ?_
      refine lst_int (v := .int .i64 ((i : Int) - 1)) rfl rfl rfl (fun w => bin_sub w (wrap_i64' _ (by omega) (by omega))) ?_
      refine lst_assign rfl rfl ?_
      refine lst_nil ?_
      refine ex_round' (k + 1) ⟨by omega, fun j h1 h2 => by
        by_cases e : j = i
        · subst e; omega
        · exact hno j (by omega) h2⟩ (by (try dsimp only); omega) (by (try dsimp only); rw [show (d.vs.length : Int) - 1 - ((k + 1 : Nat) : Int) = (i : Int) - 1 by omega]; repeat (first | exact Sub.nil _ | refine Sub.cons rfl ?_)) (by repeat (first | exact Pck.nil _ | exact Pck.refl _ | (apply Pck.cons; focus ((repeat (first | exact Rem.here _ | apply Rem.there)); done)) | refine Pck.skip _ ?_))
  · skip
    refine cod_exit ?_
    refine ex_then_exit ?_
    refine ex_then_exit ?_
    refine ex_block_exit ?_
    refine ex_then ?_
    refine cod_seq ?_
    refine cod_region ?_
    refine lst_assign rfl rfl ?_
    refine lst_nil ?_
    refine ex_then ?_
    refine cod_ret ?_
    refine ex_ret rfl (fun a w ha => res_one rfl rfl ha) (fun a w ha => ⟨.inl ⟨?_, rfl⟩, ha.grown (List.nil_sublist _)⟩)
    unfold okN
    rw [List.all_eq_true]
    exact fun i hi => decide_eq_true (hno i (by omega) (List.mem_range.1 hi))

end Go.Proofs.YthkbagikmbcphaaDoor.N
namespace Go.Proofs.YthkbagikmbcphaaDoor.N
open Go Go.RowKit Go.Proofs
variable {C : Ctx} {fr : List (Nat × Value)} {hp hp' : List Res} {ops : Array Oper} {Q : Exit → Act → World → Prop} {rest : List Oper} {d : Nat} {ty : TypeId} {pos : String} {after : Array Edge}
/-- A call of one of the model's own functions. -/
theorem lst_prim {X : Type} {x : Operand} {f : FuncId} {vs : List Value} {args : Array Operand} {ts : Array TypeId} {val : X → Value} {rs : X → List Res} (hd : Nat.blt d C.N = true)
    (hx : ev fr x = some (.func (.func f) #[] #[])) (hargs : args.toList.map (ev fr) = vs.map some)
    (h : ∀ a w, At C fr hp a w → ∃ y w', (callFunc f vs.toArray).run C.P w = .ok (.value (val y)) w' ∧ At C fr (rs y) a w')
    (k : ∀ y, Lst C ops Q rest ((d, val y) :: fr) (rs y)) : Lst C ops Q (⟨some d, .call { callee := .value x, args := args, argTypes := ts }, ty, pos, after, none⟩ :: rest) fr hp := by
  intro a w ha
  refine wpList_plain rfl fun K hK => ?_
  unfold Oper.wp
  obtain ⟨y, w', h1, h2⟩ := h a w ha
  have hr : (execOp a.eval ⟨some d, .call { callee := .value x, args := args, argTypes := ts }, ty, pos, after, none⟩).run C.P w = .ok (.value (val y)) w' := by
    simp only [execOp, resolve, ev_args ha hargs, ha.eval hx, Deferred.ofValue, Sem.run_bind, Sem.run_pure, Result.andThen_ok, invoke, List.append_toArray, List.append_nil]
    exact h1
  rw [hr]
  exact hK _ _ (k y _ _ (h2.put (lt_of_blt hd) _))
/-- A method of one of the model's own types, called by an interface. -/
theorem lst_method {x : Operand} {name : String} {t f : Nat} {rv rcv v : Value} {vs : List Value} {args : Array Operand} {ts : Array TypeId} (hd : Nat.blt d C.N = true)
    (hx : ev fr x = some (.iface t rv)) (hargs : args.toList.map (ev fr) = vs.map some)
    (hm : ∀ w, (Go.method (C.P.types.size + Made.depth) t rv name).run C.P w = .ok (f, rcv) w)
    (h : ∀ w, (callFunc f (#[rcv] ++ vs.toArray)).run C.P w = .ok (.value v) w)
    (k : Lst C ops Q rest ((d, v) :: fr) hp) : Lst C ops Q (⟨some d, .call { callee := .invoke x name, args := args, argTypes := ts }, ty, pos, after, none⟩ :: rest) fr hp := by
  refine lst_value _ hd (fun a w ha => ⟨w, ?_, ha⟩) k
  have hp : (program : Sem Program).run C.P w = .ok C.P w := rfl
  have e1 : (#[Value.iface t rv] ++ vs.toArray)[0]? = some (.iface t rv) := by simp
  have e2 : (#[Value.iface t rv] ++ vs.toArray).extract 1 (#[Value.iface t rv] ++ vs.toArray).size = vs.toArray := by simp
  simp only [execOp, resolve, ev_args ha hargs, ha.eval hx, Sem.run_bind, Sem.run_pure, Result.andThen_ok, invoke, e1, e2, callMethod, hp, hm, h]
theorem run_call_ext {P : Program} {f : FuncId} {fn : Func} {e : Array Value → Sem Value} (hf : P.funcs[f]? = some fn) (hname : (fn.name == "runtime.NumGoroutine") = false)
    (hb : fn.body.isNone = true) (hn : Extern.findNext fn = none) (he : Extern.find fn = some e) {args : Array Value} {w w' : World} {v : Value} (h : (e args).run P w = .ok v w') : (callFunc f args).run P w = .ok (.value v) w' := by
  rw [run_callFunc_extern hf hname hb hn he, h]
  rfl
end Go.Proofs.YthkbagikmbcphaaDoor.N
namespace Go.Proofs.YthkbagikmbcphaaDoor.N
open Go Go.RowKit Go.Proofs Go.Extern.Stop Go.Stop Go.Extern
/-! Closed facts on the model's entries for reflectlite, at this program's types: 94: an error that is no way; 128: a pointer to it; 104: error; 175: reflectlite's own rows of types. -/
def hT (t : Nat) : Value := .pointer (some ⟨1, t, none⟩)
def iT (t : Nat) : Value := .iface 175 (.agg #[hT t])
def rv (t : Nat) (a : Addr) (fl : Int) : Value := .agg #[hT t, .pointer (some a), .int .u64 fl]
theorem As.valueOf113 (t : Addr) (w : World) : (ReflectliteValue.unpack (.iface 128 (.pointer (some t)))).run Tryd.prog w = .ok (rv 128 ⟨w.heap.size, 0, none⟩ 150) (w.alloc (.cells #[.pointer (some t)] 128)) := by kernel_rfl
theorem As.type113 (a : Addr) (w : World) : (ReflectliteValue.methodAny (ReflectliteValue.valueError "reflectlite.Value.Type" 0) (fun t _ _ _ => ReflectliteType.toType t) #[rv 128 a 150]).run Tryd.prog w = .ok (iT 128) w := by kernel_rfl
theorem As.methodKind (h : Value) (w : World) : (Go.method (Tryd.prog.types.size + Made.depth) 175 (.agg #[h]) "Kind").run Tryd.prog w = .ok (89, h) w := by kernel_rfl
theorem As.methodElem (h : Value) (w : World) : (Go.method (Tryd.prog.types.size + Made.depth) 175 (.agg #[h]) "Elem").run Tryd.prog w = .ok (107, .agg #[h]) w := by kernel_rfl
theorem As.methodImplements (h : Value) (w : World) : (Go.method (Tryd.prog.types.size + Made.depth) 175 (.agg #[h]) "Implements").run Tryd.prog w = .ok (108, .agg #[h]) w := by kernel_rfl
theorem As.methodAssignableTo (h : Value) (w : World) : (Go.method (Tryd.prog.types.size + Made.depth) 175 (.agg #[h]) "AssignableTo").run Tryd.prog w = .ok (105, .agg #[h]) w := by kernel_rfl
theorem As.kind113 (w : World) : ((ReflectliteType.abiMethod fun t => (fun a : Nat => Value.int IntKind.u8 (a : Int)) <$> Rtype.kind t) #[hT 128]).run Tryd.prog w = .ok (.int .u8 22) w := by kernel_rfl
theorem As.kind111 (w : World) : ((ReflectliteType.abiMethod fun t => (fun a : Nat => Value.int IntKind.u8 (a : Int)) <$> Rtype.kind t) #[hT 94]).run Tryd.prog w = .ok (.int .u8 25) w := by kernel_rfl
theorem As.rlm (z : Sem Value) (f : TypeId → Addr → Nat → Nat → Sem Value) (v : Value) :
    ReflectliteValue.method z f #[v] = (do match ← ReflectliteValue.parts v with | none => z | some (t, a, fl) => f t a fl (fl % 32)) := rfl
theorem As.parts113 (a : Addr) (w : World) : (ReflectliteValue.parts (rv 128 a 150)).run Tryd.prog w = .ok (some (128, a, 150)) w := by kernel_rfl
theorem As.isNil113 (a p : Addr) (W : World) (ha : W.cell? a = some (.pointer (some p))) :
    (ReflectliteValue.method (ReflectliteValue.valueError "reflectlite.Value.IsNil" 0) ReflectliteValue.isNil #[rv 128 a 150]).run Tryd.prog W = .ok (.bool false) W := by
  rw [As.rlm]
  simp only [Sem.run_bind, As.parts113, Result.andThen]
  simp [ReflectliteValue.isNil, loadVar, isAgg, underlying, Tryd.underlying128, ha, Result.andThen]
theorem As.elem113 (w : World) : (ReflectliteType.method ReflectliteType.elem #[.agg #[hT 128]]).run Tryd.prog w = .ok (iT 94) w := by kernel_rfl
theorem As.implements111 (w : World) : (ReflectliteType.relation "Implements" ReflectliteType.implements_ #[.agg #[hT 94], iT 104]).run Tryd.prog w = .ok (.bool true) w := by kernel_rfl
theorem As.typeOf111 (v : Value) (w : World) : (ReflectliteType.typeOf #[.iface 94 v]).run Tryd.prog w = .ok (iT 94) w := by kernel_rfl
theorem As.assignable111 (w : World) : (ReflectliteType.relation "AssignableTo" ReflectliteType.assignableTo #[.agg #[hT 94], iT 94]).run Tryd.prog w = .ok (.bool true) w := by kernel_rfl
theorem As.valueOf111 (x : Int) (w : World) : (ReflectliteValue.unpack (.iface 94 (.agg #[.int .i64 x]))).run Tryd.prog w = .ok (rv 94 ⟨w.heap.size, 0, none⟩ 153) (w.alloc (.cells #[.int .i64 x] 94)) := by kernel_rfl
theorem As.elemOf113 (w : World) : (Rtype.elem? 128).run Tryd.prog w = .ok (some 94) w := by kernel_rfl
theorem As.mk111 (p : Addr) (w : World) : (ReflectliteValue.mk 94 p ReflectliteValue.flagAddr).run Tryd.prog w = .ok (rv 94 p 409) w := by kernel_rfl
theorem As.elemV113 (a p : Addr) (W : World) (ha : W.cell? a = some (.pointer (some p))) :
    (ReflectliteValue.method (ReflectliteValue.valueError "reflectlite.Value.Elem" 0) ReflectliteValue.elem #[rv 128 a 150]).run Tryd.prog W = .ok (rv 94 p 409) W := by
  rw [As.rlm]
  simp only [Sem.run_bind, As.parts113, Result.andThen]
  simp [ReflectliteValue.elem, loadVar, isAgg, underlying, Tryd.underlying128, ha, Result.andThen, As.elemOf113, As.mk111]
theorem As.rls (v x : Value) : ReflectliteValue.set #[v, x] = (do
    let (some (dst, a, fl), some (src, b, _)) := (← ReflectliteValue.parts v, ← ReflectliteValue.parts x)
      | unsupported (.noEntry "extern/(internal/reflectlite.Value).Set.zeroValue")
    if fl / ReflectliteValue.flagAddr % 2 == 0 then unsupported (.noEntry "extern/(internal/reflectlite.Value).Set.unaddressable")
    let val ← loadVar src b
    if ← Rtype.directlyAssignable dst src then storeVar dst a val
    else if ← Rtype.implements dst src then
      if (← Rtype.kind src) == 20 then
        match val with
        | .nilIface => unsupported (.noEntry "extern/reflectlite: a nil value of one interface type handed on as a value of another")
        | _ => storeVar dst a val
      else storeVar dst a (.iface src val)
    else panicString ("reflectlite.Set: value of type " ++ (← Rtype.spelt src) ++ " is not assignable to type " ++ (← Rtype.spelt dst))
    pure (.tuple #[])) := rfl
theorem As.parts111a (a : Addr) (w : World) : (ReflectliteValue.parts (rv 94 a 409)).run Tryd.prog w = .ok (some (94, a, 409)) w := by kernel_rfl
theorem As.parts111 (a : Addr) (w : World) : (ReflectliteValue.parts (rv 94 a 153)).run Tryd.prog w = .ok (some (94, a, 153)) w := by kernel_rfl
theorem As.direct111 (w : World) : (Rtype.directlyAssignable 94 94).run Tryd.prog w = .ok true w := by kernel_rfl
/-- The variable at t gets what the value's own variable holds. -/
theorem As.set111 (t b : Addr) (V : Value) (W W' : World) (hb : (loadVar 94 b).run Tryd.prog W = .ok V W) (hs : (storeVar 94 t V).run Tryd.prog W = .ok () W') :
    (ReflectliteValue.set #[rv 94 t 409, rv 94 b 153]).run Tryd.prog W = .ok (.tuple #[]) W' := by
  rw [As.rls]
  simp only [Sem.run_bind, As.parts111a, As.parts111, Result.andThen]
  simp [ReflectliteValue.flagAddr, hb, hs, Result.andThen, As.direct111]
/-! The calls themselves. -/
theorem As.c117 {args : Array Value} {w w' : World} {v : Value} (h : (ReflectliteValue.unpack (args.getD 0 (.tuple #[]))).run Tryd.prog w = .ok v w') : (callFunc 63 args).run Tryd.prog w = .ok (.value v) w' :=
  run_call_ext (e := fun args => ReflectliteValue.unpack (args.getD 0 (.tuple #[]))) Tryd.func63 (by kernel_rfl) (by kernel_rfl) (by kernel_rfl) (by kernel_rfl) h
theorem As.c118 {args : Array Value} {w w' : World} {v : Value} (h : (ReflectliteValue.methodAny (ReflectliteValue.valueError "reflectlite.Value.Type" 0) (fun t _ _ _ => ReflectliteType.toType t) args).run Tryd.prog w = .ok v w') : (callFunc 64 args).run Tryd.prog w = .ok (.value v) w' :=
  run_call_ext Tryd.func64 (by kernel_rfl) (by kernel_rfl) (by kernel_rfl) (by kernel_rfl) h
theorem As.c119 {args : Array Value} {w w' : World} {v : Value} (h : (ReflectliteValue.method (ReflectliteValue.valueError "reflectlite.Value.IsNil" 0) ReflectliteValue.isNil args).run Tryd.prog w = .ok v w') : (callFunc 65 args).run Tryd.prog w = .ok (.value v) w' :=
  run_call_ext Tryd.func65 (by kernel_rfl) (by kernel_rfl) (by kernel_rfl) (by kernel_rfl) h
theorem As.c145 {args : Array Value} {w w' : World} {v : Value} (h : ((ReflectliteType.abiMethod fun t => do pure (.int .u8 (← Rtype.kind t))) args).run Tryd.prog w = .ok v w') : (callFunc 89 args).run Tryd.prog w = .ok (.value v) w' :=
  run_call_ext Tryd.func89 (by kernel_rfl) (by kernel_rfl) (by kernel_rfl) (by kernel_rfl) h
theorem As.c156 {args : Array Value} {w w' : World} {v : Value} (h : (ReflectliteType.method ReflectliteType.elem args).run Tryd.prog w = .ok v w') : (callFunc 107 args).run Tryd.prog w = .ok (.value v) w' :=
  run_call_ext Tryd.func107 (by kernel_rfl) (by kernel_rfl) (by kernel_rfl) (by kernel_rfl) h
theorem As.c157 {args : Array Value} {w w' : World} {v : Value} (h : (ReflectliteType.relation "Implements" ReflectliteType.implements_ args).run Tryd.prog w = .ok v w') : (callFunc 108 args).run Tryd.prog w = .ok (.value v) w' :=
  run_call_ext Tryd.func108 (by kernel_rfl) (by kernel_rfl) (by kernel_rfl) (by kernel_rfl) h
theorem As.c128 {args : Array Value} {w w' : World} {v : Value} (h : (ReflectliteType.typeOf args).run Tryd.prog w = .ok v w') : (callFunc 71 args).run Tryd.prog w = .ok (.value v) w' :=
  run_call_ext Tryd.func71 (by kernel_rfl) (by kernel_rfl) (by kernel_rfl) (by kernel_rfl) h
theorem As.c154 {args : Array Value} {w w' : World} {v : Value} (h : (ReflectliteType.relation "AssignableTo" ReflectliteType.assignableTo args).run Tryd.prog w = .ok v w') : (callFunc 105 args).run Tryd.prog w = .ok (.value v) w' :=
  run_call_ext Tryd.func105 (by kernel_rfl) (by kernel_rfl) (by kernel_rfl) (by kernel_rfl) h
theorem As.c129 {args : Array Value} {w w' : World} {v : Value} (h : (ReflectliteValue.method (ReflectliteValue.valueError "reflectlite.Value.Elem" 0) ReflectliteValue.elem args).run Tryd.prog w = .ok v w') : (callFunc 72 args).run Tryd.prog w = .ok (.value v) w' :=
  run_call_ext Tryd.func72 (by kernel_rfl) (by kernel_rfl) (by kernel_rfl) (by kernel_rfl) h
theorem As.c130 {args : Array Value} {w w' : World} {v : Value} (h : (ReflectliteValue.set args).run Tryd.prog w = .ok v w') : (callFunc 73 args).run Tryd.prog w = .ok (.value v) w' :=
  run_call_ext Tryd.func73 (by kernel_rfl) (by kernel_rfl) (by kernel_rfl) (by kernel_rfl) h
end Go.Proofs.YthkbagikmbcphaaDoor.N
namespace Go.Proofs.YthkbagikmbcphaaDoor.N
open Go Go.RowKit Go.Proofs
/-- An interface value and nil. -/
theorem run_eql_nil_no {t t' : TypeId} {v : Value} {P : Program} {ms} (ht : P.underlying t = some (.interface ms)) (x : Operand) (w : World) :
    (do eqGuard .eql t x (.const .nilIface) (.iface t' v) .nilIface; binOp .eql t (.iface t' v) .nilIface : Sem Value).run P w = .ok (.bool false) w := by
  have hg : (eqGuard .eql t x (.const .nilIface) (.iface t' v) .nilIface).run P w = .ok () w := by simp [eqGuard]
  have hb : (binOp .eql t (.iface t' v) .nilIface).run P w = .ok (.bool false) w := by
    show (do pure (.bool (← Op.equal t (.iface t' v) .nilIface)) : Sem Value).run P w = _
    have he : (Op.equal t (.iface t' v) .nilIface).run P w = .ok false w := by
      show (Op.equalIn (9999 + 1) t (.iface t' v) .nilIface).run P w = _
      unfold Op.equalIn
      simp only [Sem.run_bind, run_underlying ht, Result.andThen_ok]
      simp
    simp only [Sem.run_bind, he, Result.andThen_ok, Sem.run_pure]
  simp only [Sem.run_bind, hg, Result.andThen_ok, hb]
theorem At.store_blk {C : Ctx} {fr : List (Nat × Value)} {hp hp' : List Res} {a : Act} {w : World} (ha : At C fr hp a w) {ty t b n m : Nat} {cs vs : List Value} {z : Value} [hc : Cells (.agg vs.toArray) vs] (hi : TI C.P ty z n m) (hu : Upd (.blk b (.cells cs.toArray t (0, 0))) (.blk b (.cells vs.toArray t (0, 0))) hp hp') (hn : vs.length = n := by rfl) (hl : cs.length = vs.length := by rfl) :
    ∃ w', (storeVar ty ⟨b, 0, none⟩ (.agg vs.toArray)).run C.P w = .ok () w' ∧ At C fr hp' a w' := by
  obtain ⟨i, hi, _, hsz, _⟩ := hi
  have hs : Splice cs 0 vs vs := ⟨by simp [hl], by omega⟩
  obtain ⟨w', h1, h2, h3⟩ := splice_upd hs (ha.mem_blk hu.mem) hc.one C.P
  refine ⟨w', ?_, ha.turn hu h3 ⟨(ha.own _ hu.mem).1, h2⟩ (fun k hk => .inl hk)⟩
  simp [storeVar, sizeOf, typeInfo, hi, hc.eq, hn, hsz, h1]
theorem run_eql_nilIface {t : TypeId} {P : Program} {ms} (ht : P.underlying t = some (.interface ms)) (x : Operand) (w : World) :
    (do eqGuard .eql t x (.const .nilIface) .nilIface .nilIface; binOp .eql t .nilIface .nilIface : Sem Value).run P w = .ok (.bool true) w := by
  have hg : (eqGuard .eql t x (.const .nilIface) .nilIface .nilIface).run P w = .ok () w := by simp [eqGuard]
  have hb : (binOp .eql t .nilIface .nilIface).run P w = .ok (.bool true) w := by
    show (do pure (.bool (← Op.equal t .nilIface .nilIface)) : Sem Value).run P w = _
    have he : (Op.equal t .nilIface .nilIface).run P w = .ok true w := by
      show (Op.equalIn (9999 + 1) t .nilIface .nilIface).run P w = _
      unfold Op.equalIn
      simp only [Sem.run_bind, run_underlying ht, Result.andThen_ok]
      simp
    simp only [Sem.run_bind, he, Result.andThen_ok, Sem.run_pure]
  simp only [Sem.run_bind, hg, Result.andThen_ok, hb]
theorem run_neq_nil_no {t t' : TypeId} {v : Value} {P : Program} {ms} (ht : P.underlying t = some (.interface ms)) (x : Operand) (w : World) :
    (do eqGuard .neq t x (.const .nilIface) (.iface t' v) .nilIface; binOp .neq t (.iface t' v) .nilIface : Sem Value).run P w = .ok (.bool true) w := by
  have hg : (eqGuard .neq t x (.const .nilIface) (.iface t' v) .nilIface).run P w = .ok () w := by simp [eqGuard]
  have hb : (binOp .neq t (.iface t' v) .nilIface).run P w = .ok (.bool true) w := by
    show (do pure (.bool (!(← Op.equal t (.iface t' v) .nilIface))) : Sem Value).run P w = _
    have he : (Op.equal t (.iface t' v) .nilIface).run P w = .ok false w := by
      show (Op.equalIn (9999 + 1) t (.iface t' v) .nilIface).run P w = _
      unfold Op.equalIn
      simp only [Sem.run_bind, run_underlying ht, Result.andThen_ok]
      simp
    simp only [Sem.run_bind, he, Result.andThen_ok, Sem.run_pure, Bool.not_false]
  simp only [Sem.run_bind, hg, Result.andThen_ok, hb]
theorem run_neq_nilIface {t : TypeId} {P : Program} {ms} (ht : P.underlying t = some (.interface ms)) (x : Operand) (w : World) :
    (do eqGuard .neq t x (.const .nilIface) .nilIface .nilIface; binOp .neq t .nilIface .nilIface : Sem Value).run P w = .ok (.bool false) w := by
  have hg : (eqGuard .neq t x (.const .nilIface) .nilIface .nilIface).run P w = .ok () w := by simp [eqGuard]
  have hb : (binOp .neq t .nilIface .nilIface).run P w = .ok (.bool false) w := by
    show (do pure (.bool (!(← Op.equal t .nilIface .nilIface))) : Sem Value).run P w = _
    have he : (Op.equal t .nilIface .nilIface).run P w = .ok true w := by
      show (Op.equalIn (9999 + 1) t .nilIface .nilIface).run P w = _
      unfold Op.equalIn
      simp only [Sem.run_bind, run_underlying ht, Result.andThen_ok]
      simp
    simp only [Sem.run_bind, he, Result.andThen_ok, Sem.run_pure, Bool.not_true]
  simp only [Sem.run_bind, hg, Result.andThen_ok, hb]
end Go.Proofs.YthkbagikmbcphaaDoor.N
