/- Parts of the walks of the laws on fining, those that FiningWays needs: F7, Along, F8, Market, Market2, F9, Market3, Price, Price2, F10, Eq. -/
import Derived.Test.YtofkhehcnfiopaaDoorSFiningWays04
import Derived.Test.YtofkhehcnfiopaaDoorProg
import Derived.DeepKeys3
namespace Go.Proofs.YtofkhehcnfiopaaDoor.N
open Go Go.RowKit Go.Proofs
set_option linter.unusedSectionVars false
variable [I : Sys]
theorem F.ent78 : Enters Tryd.prog 78 := enters_of Tryd.func78 rfl (by kernel_rfl)
theorem Both_ok (A : Option Addr) (c : Nat) (ags : List Ag) (hok : Oks ags) (mA : Option Addr) (mc : Nat) (ms : List Nat) (p : Nat) (hm1 : 1 ≤ ms.length) (hm3 : ms.length ≤ 3) (hms : ∀ m ∈ ms, m < 64) (hp : p < 64) (w : World) (hA : RdL Ag.cells 5 w A ags) (hM : RdL ncell 1 w mA ms) : Calls Tryd.prog 28 #[.slice A ags.length c, .slice mA ms.length mc, .int .i64 (p : Int)] w fun e w' => ∃ o, FoundO ags (usedAll ags.length) ms.length 5 (teamOf ms ms.length) (fun t => clearT p t ms.length) o ∧ e = .returned (.tuple #[.slice (wayO o).A (wayO o).how.length (wayO o).c, .int .i64 (if o.isSome then 0 else 11)]) ∧ Grew w w' [.row 3 1 (wayO o).A (wayO o).how.length (wayO o).c (ints (wayO o).how)] := by
  have hua : usedAll ags.length < 256 := by have := usedAll_lt hok.1; omega
  refine enter_defers (N := 48) [(0, .slice A ags.length c), (1, .slice mA ms.length mc), (2, .int .i64 (p : Int))] Tryd.func28 rfl Tryd.ntmps28 rfl rfl ?_
  refine cod_seq ?_
  refine cod_region ?_
  refine lst_box rfl rfl ?_
  intro b4
  refine lst_assign rfl rfl ?_
  refine lst_alloc rfl F.ti35 ?_
  intro b7
  refine lst_nil ?_
  refine ex_then ?_
  refine cod_seq ?_
  refine cod_region ?_
  refine lst_defer (first := []) (cap := []) (vs := [_]) rfl rfl ?_
  refine lst_nil ?_
  refine ex_then ?_
  refine cod_seq ?_
  refine cod_region ?_
  refine lst_move rfl rfl ?_
  refine lst_fn (X := Option Addr × Nat) (vs := [_]) (p := fun _ => True) (val := fun x => .agg [.slice x.1 ags.length x.2, .int .u8 (usedAll ags.length : Nat)].toArray) (rs := fun x => [.row 89 5 x.1 ags.length x.2 (ags.flatMap Ag.cells)]) rfl rfl F.ent75 (fun a w ha => (begin_ok A c ags hok w (hA.later ha.below)).mono (fun e w' h => by obtain ⟨A', c', h1, h2⟩ := h; exact ⟨(A', c'), trivial, h1, h2⟩)) ?_
  rintro ⟨aA, cg⟩ -
  dsimp only [List.cons_append, List.nil_append]
  refine lst_alloc rfl F.ti75 ?_
  intro b8
  refine lst_store rfl rfl F.ti75 rfl ?_
  refine lst_nil ?_
  refine ex_then ?_
  refine cod_seq ?_
  refine cod_seq ?_
  refine cod_region ?_
  refine lst_load rfl rfl F.one25 ?_
  refine lst_len rfl rfl Tryd.underlying25 ?_
  refine lst_int rfl rfl rfl bin_eql ?_
  refine lst_nil ?_
  refine ex_then ?_
  refine cod_cond_dec rfl (fun hc0 => ?_) (fun hc0 => ?_)
  · skip
    exact absurd hc0 (by omega) -- done
  · skip
    refine cod_skip ?_
    refine ex_then ?_
    refine cod_seq ?_
    refine cod_seq ?_
    refine cod_region ?_
    refine lst_load rfl rfl F.one25 ?_
    refine lst_len rfl rfl Tryd.underlying25 ?_
    refine lst_int rfl rfl rfl bin_gtr ?_
    refine lst_nil ?_
    refine ex_then ?_
    refine cod_cond_dec rfl (fun hc1 => ?_) (fun hc1 => ?_)
    · skip
      exact absurd hc1 (by omega) -- done
    · skip
      refine cod_skip ?_
      refine ex_then ?_
      refine cod_seq ?_
      refine cod_region ?_
      refine lst_alloc rfl F.ti79 ?_
      intro b9
      refine lst_nil ?_
      refine ex_then ?_
      refine cod_seq ?_
      refine cod_seq ?_
      refine cod_region ?_
      refine lst_load rfl rfl F.one25 ?_
      refine lst_len rfl rfl Tryd.underlying25 ?_
      refine lst_move rfl rfl ?_
      refine lst_nil ?_
      refine ex_then ?_
      refine cod_block ?_
      refine cod_loop (G := Nat) (fun k => k ≤ ms.length) (fun k => ms.length - k) (fun k => [(2, .int .i64 (p : Int)), (4, .pointer (some ⟨b4, 0, none⟩)), (7, .pointer (some ⟨b7, 0, none⟩)), (8, .pointer (some ⟨b8, 0, none⟩)), (9, .pointer (some ⟨b9, 0, none⟩)), (22, .slice mA ms.length mc), (23, .int .i64 (ms.length : Int)), (24, .int .i64 (k : Int))]) (fun k => .blk b9 (.cells [.int .u8 ((teamOf ms k).1 : Int), .int .u8 ((teamOf ms k).2.1 : Int), .int .u8 ((teamOf ms k).2.2 : Int)].toArray 79 (0, 0)) :: .blk b8 (.cells [.slice aA ags.length cg, .int .u8 (usedAll ags.length : Nat)].toArray 75 (0, 0)) :: .row 89 5 aA ags.length cg (ags.flatMap Ag.cells) :: .blk b7 (.cells [.int .i64 0].toArray 35 (0, 0)) :: [.blk b4 (.cells [.slice mA ms.length mc].toArray 25 (0, 0))]) 0 (Nat.zero_le _) sbn sbl ?_
      intro k hk
      (try dsimp only at hk ⊢)
      refine cod_seq ?_
      refine cod_region ?_
      refine lst_int rfl rfl rfl bin_lss ?_
      refine lst_nil ?_
      refine ex_then ?_
      refine cod_seq ?_
      refine cod_cond_dec rfl (fun hc2 => ?_) (fun hc2 => ?_)
      · skip
        have hk' : k < ms.length := by omega
        obtain ⟨b, o, rfl, hb, hcell⟩ := hM (by omega)
        obtain ⟨m, hx⟩ : ∃ m, ms[k]? = some m := ⟨_, List.getElem?_eq_getElem hk'⟩
        have hm64 := hms m (List.mem_of_getElem? hx)
        have hmd : ms.getD k 0 = m := by rw [List.getD_eq_getElem?_getD, hx]; rfl
        refine cod_skip ?_
        refine ex_then ?_
        refine cod_seq ?_
        refine cod_block ?_
        refine cod_seq ?_
        refine cod_region ?_
        refine lst_move rfl rfl ?_
        refine lst_index (j := k) rfl rfl rfl Tryd.underlying25 F.ti3 rfl hk' ?_
        refine lst_load_at (v := .int .i64 (m : Int)) rfl rfl F.one3 (fun a w ha => ha.old (hcell k m hx 0 _ rfl) hb) ?_
        refine lst_assign rfl rfl ?_
        refine lst_assign rfl rfl ?_
        refine lst_nil ?_
        refine ex_then ?_
        refine cod_region ?_
        refine lst_move rfl rfl ?_
        refine lst_move rfl rfl ?_
        refine lst_fn0 (vs := [_]) rfl rfl F.ent76 (fun a w ha => melt_ok m hm64 w) ?_
        refine lst_index_arr (j := k) rfl rfl rfl Tryd.underlying79 F.ti77 rfl (by omega) ?_
        refine lst_store_any rfl rfl F.ti77 (by show 0 + k * 1 < 3; omega) (tput_cells (teamOf ms k) (by omega)) UpB.upd ?_
        rw [show tput (teamOf ms k) k m = teamOf ms (k + 1) from by rw [teamOf, hmd]]
        refine lst_nil ?_
        refine ex_block_normal ?_
        refine ex_then ?_
        refine cod_region ?_
        refine lst_int rfl rfl rfl (fun w => bin_add w (wrap_i64' _ (by omega) (by omega))) ?_
        refine lst_move rfl rfl ?_
        refine lst_nil ?_
        refine ex_round (k + 1) (by omega) (by (try dsimp only); omega) sbn sbl
      · skip
        obtain rfl : k = ms.length := by omega
        refine cod_exit ?_
        refine ex_then_exit ?_
        refine ex_then_exit ?_
        refine ex_block_exit ?_
        refine ex_then ?_
        refine cod_seq ?_
        refine cod_region ?_
        refine lst_move rfl rfl ?_
        refine lst_fn0 (vs := [_]) rfl rfl F.ent76 (fun a w ha => melt_ok p hp w) ?_
        refine lst_alloc rfl F.ti77 ?_
        intro b12
        refine lst_store rfl rfl F.ti77 rfl ?_
        refine lst_nil ?_
        refine ex_then ?_
        refine cod_seq ?_
        refine cod_region ?_
        refine lst_loadN rfl rfl F.agg75 F.ti75 ?_
        refine lst_loadN rfl rfl F.agg79 F.ti79 ?_
        refine lst_load rfl rfl F.one25 ?_
        refine lst_len rfl rfl Tryd.underlying25 ?_
        refine lst_makeFunc (fs := []) (cs := [_, _]) rfl rfl rfl ?_
        refine lst_call (X := Option Wk) (first := []) (cap := []) (vs := [_, _, _, _, _]) (p := FoundO ags (usedAll ags.length) ms.length (5) (teamOf ms ms.length) (fun t => clearT p t ms.length)) (val := fun o => .tuple #[.slice (wayO o).A (wayO o).how.length (wayO o).c, .bool o.isSome]) (rs := fun o => .row 3 1 (wayO o).A (wayO o).how.length (wayO o).c (ints (wayO o).how) :: endO (.blk b12 (.cells [.int .u8 (p : Int)].toArray 77 (0, 0))) ((fun _ => .blk b12 (.cells [.int .u8 (p : Int)].toArray 77 (0, 0)))) o :: .blk b9 (.cells [.int .u8 ((teamOf ms ms.length).1 : Int), .int .u8 ((teamOf ms ms.length).2.1 : Int), .int .u8 ((teamOf ms ms.length).2.2 : Int)].toArray 79 (0, 0)) :: .blk b8 (.cells [.slice aA ags.length cg, .int .u8 (usedAll ags.length : Nat)].toArray 75 (0, 0)) :: .row 89 5 aA ags.length cg (ags.flatMap Ag.cells) :: .blk b7 (.cells [.int .i64 0].toArray 35 (0, 0)) :: [.blk b4 (.cells [.slice mA ms.length mc].toArray 25 (0, 0))]) rfl rfl rfl F.ent77 (fun a w ha => (find_o (r := .blk b12 (.cells [.int .u8 (p : Int)].toArray 77 (0, 0))) (r' := (fun _ => .blk b12 (.cells [.int .u8 (p : Int)].toArray 77 (0, 0)))) (t0 := (teamOf ms ms.length)) (n := ms.length) (goal := (fun t => clearT p t ms.length)) (cap := [.pointer (some ⟨b4, 0, none⟩), .pointer (some ⟨b12, 0, none⟩)]) (fid := 78) rfl hok hua (by omega) (by omega) (teamOf_lo hms _) (by simp) F.ent78 (fun N fr Y a w t ht hY h => (both1_c (bl := b4) (bp := b12) (m := ms.length) (mA := mA) (mc := mc) rfl ht.ok (by omega) hm3 (hY _ (by simp)) h).mono (fun e w' hh => ⟨hh.1, by rw [ite_self]; exact hh.2⟩)) ha).mono (fun e w' h => by obtain ⟨o, h1, h2, h3⟩ := h; exact ⟨o, h1, h2, h3⟩)) ?_
        intro o hfo
        dsimp only
        refine lst_move rfl rfl ?_
        refine lst_extract rfl rfl rfl ?_
        refine lst_extract rfl rfl rfl ?_
        refine lst_assign rfl rfl ?_
        refine lst_assign rfl rfl ?_
        refine lst_nil ?_
        refine ex_then ?_
        refine cod_seq ?_
        refine cod_seq ?_
        refine cod_region ?_
        refine lst_move rfl rfl ?_
        refine lst_not rfl rfl ?_
        refine lst_nil ?_
        refine ex_then ?_
        refine cod_cond_bool rfl (fun hc3 => ?_) (fun hc3 => ?_)
        · skip
          have ho : o = none := by cases o with
            | none => rfl
            | some k => cases hc3
          subst ho
          refine cod_seq ?_
          refine cod_region ?_
          refine lst_assign rfl rfl ?_
          refine lst_store rfl rfl F.ti35 rfl ?_
          refine lst_nil ?_
          refine ex_then ?_
          refine cod_ret ?_
          refine ex_then_ret ?_
          exact ex_ret_caught (fun a w ha => ⟨_, res_tc (fn := Tryd.f28) ha rfl rfl rfl F.one35, none, hfo, by simp [wayO], ha.grown sbl⟩)
        · skip
          obtain ⟨k, rfl⟩ : ∃ k, o = some k := by cases o with
            | none => cases hc3
            | some k => exact ⟨k, rfl⟩
          refine cod_skip ?_
          refine ex_then ?_
          refine cod_seq ?_
          refine cod_region ?_
          refine lst_move rfl rfl ?_
          refine lst_assign rfl rfl ?_
          refine lst_store rfl rfl F.ti35 rfl ?_
          refine lst_nil ?_
          refine ex_then ?_
          refine cod_ret ?_
          exact ex_ret_caught (fun a w ha => ⟨_, res_tc (fn := Tryd.f28) ha rfl rfl rfl F.one35, some k, hfo, by simp [wayO], ha.grown sbl⟩)

theorem Farthest_ok (A : Option Addr) (c : Nat) (ags : List Ag) (hok : Oks ags) (p : Nat) (hp : p < 64) (w : World) (hA : RdL Ag.cells 5 w A ags) : Calls Tryd.prog 54 #[.slice A ags.length c, .int .i64 (p : Int)] w fun e w' => ∃ os : Nat → Option Wk, (∀ f, f < 64 → FoundO ags (usedAll ags.length) 1 (-1) (f, 0, 0) (fun t => decide (nn t.1 p = 0)) (os f)) ∧ e = .returned (.tuple #[.int .i64 ((farL os 64).1 : Int), .int .i64 ((farL os 64).2 : Int), .int .i64 0]) ∧ Grew w w' [] := by
  have hua : usedAll ags.length < 256 := by have := usedAll_lt hok.1; omega
  refine enter_defers (N := 40) [(0, .slice A ags.length c), (1, .int .i64 (p : Int))] Tryd.func54 rfl Tryd.ntmps54 rfl rfl ?_
  refine cod_seq ?_
  refine cod_region ?_
  refine lst_assign rfl rfl ?_
  refine lst_assign rfl rfl ?_
  refine lst_alloc rfl F.ti35 ?_
  intro b6
  refine lst_nil ?_
  refine ex_then ?_
  refine cod_seq ?_
  refine cod_region ?_
  refine lst_defer (first := []) (cap := []) (vs := [_]) rfl rfl ?_
  refine lst_nil ?_
  refine ex_then ?_
  refine cod_seq ?_
  refine cod_region ?_
  refine lst_move rfl rfl ?_
  refine lst_fn (X := Option Addr × Nat) (vs := [_]) (p := fun _ => True) (val := fun x => .agg [.slice x.1 ags.length x.2, .int .u8 (usedAll ags.length : Nat)].toArray) (rs := fun x => [.row 89 5 x.1 ags.length x.2 (ags.flatMap Ag.cells)]) rfl rfl F.ent75 (fun a w ha => (begin_ok A c ags hok w (hA.later ha.below)).mono (fun e w' h => by obtain ⟨A', c', h1, h2⟩ := h; exact ⟨(A', c'), trivial, h1, h2⟩)) ?_
  rintro ⟨aA, cg⟩ -
  dsimp only [List.cons_append, List.nil_append]
  refine lst_alloc rfl F.ti75 ?_
  intro b7
  refine lst_store rfl rfl F.ti75 rfl ?_
  refine lst_nil ?_
  refine ex_then ?_
  refine cod_seq ?_
  refine cod_region ?_
  refine lst_move rfl rfl ?_
  refine lst_fn0 (vs := [_]) rfl rfl F.ent76 (fun a w ha => melt_ok p hp w) ?_
  refine lst_assign rfl rfl ?_
  refine lst_nil ?_
  refine ex_then ?_
  refine cod_seq ?_
  refine cod_seq ?_
  refine cod_region ?_
  refine lst_move rfl rfl ?_
  refine lst_nil ?_
  refine ex_then ?_
  refine cod_block ?_
  refine cod_loop (G := Nat × (Nat → Option Wk)) (fun g => g.1 ≤ 64 ∧ ∀ f, f < g.1 → FoundO ags (usedAll ags.length) 1 (-1) (f, 0, 0) (fun t => decide (nn t.1 p = 0)) (g.2 f)) (fun g => 64 - g.1) (fun g => [(4, .int .i64 ((farL g.2 g.1).1 : Int)), (5, .int .i64 ((farL g.2 g.1).2 : Int)), (6, .pointer (some ⟨b6, 0, none⟩)), (7, .pointer (some ⟨b7, 0, none⟩)), (8, .int .u8 (p : Int)), (16, .int .i64 (g.1 : Int))]) (fun g => .blk b7 (.cells [.slice aA ags.length cg, .int .u8 (usedAll ags.length : Nat)].toArray 75 (0, 0)) :: .row 89 5 aA ags.length cg (ags.flatMap Ag.cells) :: [.blk b6 (.cells [.int .i64 0].toArray 35 (0, 0))]) (0, fun _ => none) ⟨by omega, fun f h => absurd h (by omega)⟩ sbn sbl ?_
  rintro ⟨k, os⟩ hk
  (try dsimp only at hk ⊢)
  refine cod_seq ?_
  refine cod_region ?_
  refine lst_int rfl rfl rfl bin_lss ?_
  refine lst_nil ?_
  refine ex_then ?_
  refine cod_seq ?_
  refine cod_cond_dec rfl (fun hc0 => ?_) (fun hc0 => ?_)
  · skip
    have hk64 : k < 64 := by omega
    refine cod_skip ?_
    refine ex_then ?_
    refine cod_seq ?_
    refine cod_block ?_
    refine cod_seq ?_
    refine cod_region ?_
    refine lst_move rfl rfl ?_
    refine lst_assign rfl rfl ?_
    refine lst_nil ?_
    refine ex_then ?_
    refine cod_seq ?_
    refine cod_region ?_
    refine lst_loadN rfl rfl F.agg75 F.ti75 ?_
    refine lst_move rfl rfl ?_
    refine lst_convert rfl rfl Tryd.underlying3 Tryd.underlying77 (wrap_u8 _ (by omega)) ?_
    refine lst_move rfl rfl ?_
    refine lst_call (X := Option Wk) (first := []) (cap := []) (vs := [_, _, _]) (p := FoundO ags (usedAll ags.length) 1 (-1) (k, 0, 0) (fun t => decide (nn t.1 p = 0))) (val := fun o => .tuple #[.slice (wayO o).A (wayO o).how.length (wayO o).c, .bool o.isSome]) (rs := fun o => .row 3 1 (wayO o).A (wayO o).how.length (wayO o).c (ints (wayO o).how) :: .blk b7 (.cells [.slice aA ags.length cg, .int .u8 (usedAll ags.length : Nat)].toArray 75 (0, 0)) :: .row 89 5 aA ags.length cg (ags.flatMap Ag.cells) :: [.blk b6 (.cells [.int .i64 0].toArray 35 (0, 0))]) rfl rfl rfl F.ent102 (fun a w ha => (shortest_c rfl hok hua ⟨hk64, show (0 : Nat) < 64 by omega, show (0 : Nat) < 64 by omega⟩ (by omega) (by simp) ha).mono (fun e w' h => by obtain ⟨o, h1, h2, h3⟩ := h; exact ⟨o, h1, h2, h3⟩)) ?_
    intro o hfo
    dsimp only
    refine lst_move rfl rfl ?_
    refine lst_extract rfl rfl rfl ?_
    refine lst_extract rfl rfl rfl ?_
    refine lst_assign rfl rfl ?_
    refine lst_assign rfl rfl ?_
    refine lst_nil ?_
    refine ex_then ?_
    refine cod_seq ?_
    refine cod_region ?_
    refine lst_cut1 7 33 (.bool (o.isSome && decide (((wayO o).how.length : Int) > ((farL os k).2 : Int)))) ?_ ?_
    · skip
      refine lst_move rfl rfl ?_
      refine lst_move rfl rfl ?_
      refine lst_split_bool (t := 28) rfl (fun hg28 => ?_) (fun hg28 => ?_)
      · skip
        refine lst_on rfl rfl ?_
        refine lst_move rfl rfl ?_
        refine lst_on rfl rfl ?_
        refine lst_len rfl rfl Tryd.underlying25 ?_
        refine lst_on rfl rfl ?_
        refine lst_move rfl rfl ?_
        refine lst_on rfl rfl ?_
        refine lst_int rfl rfl rfl bin_gtr ?_
        refine lst_pick_true rfl rfl rfl ?_
        refine lst_nil ?_
        exact ex_cut (.cons (by first | rfl | simp [look, *]) sbn) sbl
      · skip
        refine lst_off rfl rfl rfl ?_
        refine lst_off rfl rfl rfl ?_
        refine lst_off rfl rfl rfl ?_
        refine lst_off rfl rfl rfl ?_
        refine lst_pick_false rfl rfl rfl ?_
        refine lst_nil ?_
        exact ex_cut (.cons (by first | rfl | simp [look, *]) sbn) sbl
    refine lst_nil ?_
    refine ex_then ?_
    refine cod_cond_bool rfl (fun hc1 => ?_) (fun hc1 => ?_)
    · skip
      refine cod_region ?_
      refine lst_move rfl rfl ?_
      refine lst_move rfl rfl ?_
      refine lst_len rfl rfl Tryd.underlying25 ?_
      refine lst_assign rfl rfl ?_
      refine lst_assign rfl rfl ?_
      refine lst_nil ?_
      refine ex_block_normal ?_
      refine ex_then ?_
      refine cod_region ?_
      refine lst_int rfl rfl rfl (fun w => bin_add w (wrap_i64' _ (by omega) (by omega))) ?_
      refine lst_move rfl rfl ?_
      refine lst_nil ?_
      have hs := farL_yes os k o hc1
      refine ex_round (k + 1, upd os k o) ⟨by omega, far_found hk.2 hfo⟩ (by (try dsimp only); omega) (by dsimp only; rw [hs]; repeat (first | exact Sub.nil _ | refine Sub.cons rfl ?_)) (by (try dsimp only); repeat (first | exact List.Sublist.refl _ | exact List.nil_sublist _ | refine List.Sublist.cons_cons _ ?_ | refine List.Sublist.cons _ ?_))
    · skip
      refine cod_skip ?_
      refine ex_block_normal ?_
      refine ex_then ?_
      refine cod_region ?_
      refine lst_int rfl rfl rfl (fun w => bin_add w (wrap_i64' _ (by omega) (by omega))) ?_
      refine lst_move rfl rfl ?_
      refine lst_nil ?_
      have hs := farL_no os k o hc1
      refine ex_round (k + 1, upd os k o) ⟨by omega, far_found hk.2 hfo⟩ (by (try dsimp only); omega) (by dsimp only; rw [hs]; repeat (first | exact Sub.nil _ | refine Sub.cons rfl ?_)) (by (try dsimp only); repeat (first | exact List.Sublist.refl _ | exact List.nil_sublist _ | refine List.Sublist.cons_cons _ ?_ | refine List.Sublist.cons _ ?_))
  · skip
    refine cod_exit ?_
    refine ex_then_exit ?_
    refine ex_then_exit ?_
    refine ex_block_exit ?_
    refine ex_then ?_
    refine cod_seq ?_
    refine cod_region ?_
    refine lst_move rfl rfl ?_
    refine lst_move rfl rfl ?_
    refine lst_assign rfl rfl ?_
    refine lst_assign rfl rfl ?_
    refine lst_store rfl rfl F.ti35 rfl ?_
    refine lst_nil ?_
    refine ex_then ?_
    refine cod_ret ?_
    obtain rfl : k = 64 := by omega
    exact ex_ret_caught (fun a w ha => ⟨_, res_ttc (fn := Tryd.f54) ha rfl rfl rfl rfl F.one35, os, hk.2, rfl, ha.grown (List.nil_sublist _)⟩)

end Go.Proofs.YtofkhehcnfiopaaDoor.N
namespace Go.Proofs.YtofkhehcnfiopaaDoor.N
open Go Go.RowKit Go.Proofs
set_option linter.unusedSectionVars false
variable [I : Sys]
/-- What a melt becomes, agent by agent. -/
def alongF (ags : List Ag) (f : Nat) : List Nat → Option (List Nat)
  | [] => some []
  | i :: l => if i < ags.length ∧ mayN (ags.getD i default) f = true then (alongF ags (putN (ags.getD i default) f) l).map (putN (ags.getD i default) f :: ·) else none
theorem alongF_step {ags : List Ag} {f k i : Nat} {way l : List Nat} (hi : way[k]? = some i) (h : alongF ags f (way.drop k) = some l) :
    i < ags.length ∧ mayN (ags.getD i default) f = true ∧ ∃ l', alongF ags (putN (ags.getD i default) f) (way.drop (k + 1)) = some l' ∧ l = putN (ags.getD i default) f :: l' := by
  obtain ⟨hk, he⟩ := List.getElem?_eq_some_iff.1 hi
  rw [List.drop_eq_getElem_cons hk, he] at h
  unfold alongF at h
  split at h
  · rename_i hc
    obtain ⟨l', h1, h2⟩ := Option.map_eq_some_iff.1 h
    exact ⟨hc.1, hc.2, l', h1, h2.symm⟩
  · cases h
theorem run_eql_nilIface {t : TypeId} {P : Program} {ms} (ht : P.underlying t = some (.interface ms)) (x : Operand) (w : World) :
    (do eqGuard .eql t x (.const .nilIface) .nilIface .nilIface; binOp .eql t .nilIface .nilIface : Sem Value).run P w = .ok (.bool true) w := by
  have hg : (eqGuard .eql t x (.const .nilIface) .nilIface .nilIface).run P w = .ok () w := by simp [eqGuard]
  have hb : (binOp .eql t .nilIface .nilIface).run P w = .ok (.bool true) w := by
    show (do pure (.bool (← Op.equal t .nilIface .nilIface)) : Sem Value).run P w = _
    have he : (Op.equal t .nilIface .nilIface).run P w = .ok true w := by
      show (Op.equalIn (9999 + 1) t .nilIface .nilIface).run P w = _
      unfold Op.equalIn
      simp only [Sem.run_bind, run_underlying ht, Result.andThen_ok]
      simp
    simp only [Sem.run_bind, he, Result.andThen_ok, Sem.run_pure]
  simp only [Sem.run_bind, hg, Result.andThen_ok, hb]
end Go.Proofs.YtofkhehcnfiopaaDoor.N
namespace Go.Proofs.YtofkhehcnfiopaaDoor.N
open Go Go.RowKit Go.Proofs
set_option linter.unusedSectionVars false
variable [I : Sys]
theorem F.ent95 : Enters Tryd.prog 95 := enters_of Tryd.func95 rfl (by kernel_rfl)
theorem F.ent96 : Enters Tryd.prog 96 := enters_of Tryd.func96 rfl (by kernel_rfl)
theorem F.ti111 : TI Tryd.prog 111 (.agg [.int .i64 0, .int .i64 0].toArray) 2 16 := TI.of (by kernel_rfl)
theorem along_ok {C : Ctx} {fr : List (Nat × Value)} {T : List Res} {a : Act} {w : World} (hC : C.P = Tryd.prog) {ags : List Ag} {used f cg wc : Nat} {aA wA : Option Addr} {way outs : List Nat} (hok : Oks ags) (hf : f < 64) (hwl : way.length ≤ 20) (hal : alongF ags f way = some outs) (hB : C.w0.heap.size = C.B) (hW : RdL ncell 1 C.w0 wA way) (hAg : Res.row 89 5 aA ags.length cg (ags.flatMap Ag.cells) ∈ T) (ha : At C fr (T) a w) : Calls C.P 95 #[.agg [.slice aA ags.length cg, .int .u8 (used : Int)].toArray, .int .u8 (f : Int), .slice wA way.length wc] w fun e w' => ∃ A' c', e = .returned (.tuple #[.slice A' outs.length c', .nilIface]) ∧ At C fr (.row 3 1 A' outs.length c' (ints outs) :: T) a w' := by
  obtain ⟨P, B, w0, N0, ds⟩ := C
  obtain rfl : P = Tryd.prog := hC
  refine enter_in (N := 52) [(0, .agg [.slice aA ags.length cg, .int .u8 (used : Int)].toArray), (1, .int .u8 (f : Int)), (2, .slice wA way.length wc)] ha Tryd.func95 rfl Tryd.ntmps95 rfl rfl ?_
  refine cod_seq ?_
  refine cod_region ?_
  refine lst_box rfl rfl ?_
  intro b3
  refine lst_assign rfl rfl ?_
  refine lst_assign rfl rfl ?_
  refine lst_nil ?_
  refine ex_then ?_
  refine cod_seq ?_
  refine cod_region ?_
  refine lst_assign rfl rfl ?_
  refine lst_nil ?_
  refine ex_then ?_
  refine cod_seq ?_
  refine cod_seq ?_
  refine cod_region ?_
  refine lst_move rfl rfl ?_
  refine lst_len rfl rfl Tryd.underlying25 ?_
  refine lst_move rfl rfl ?_
  refine lst_nil ?_
  refine ex_then ?_
  refine cod_block ?_
  refine cod_nil 3 1 ?_
  refine cod_loop' (G := Nat × Nat × Option Addr × Nat × List Nat) (fun g => g.1 ≤ way.length ∧ g.2.2.2.2.length = g.1 ∧ g.2.1 < 64 ∧ ∃ l2, alongF ags g.2.1 (way.drop g.1) = some l2 ∧ outs = g.2.2.2.2 ++ l2) (fun g => way.length - g.1) (fun g => [(3, .pointer (some ⟨b3, 0, none⟩)), (1, .int .u8 (g.2.1 : Int)), (8, .slice g.2.2.1 g.2.2.2.2.length g.2.2.2.1), (11, .slice wA way.length wc), (12, .int .i64 (way.length : Int)), (13, .int .i64 (g.1 : Int))]) (fun g => .row 3 1 g.2.2.1 g.2.2.2.2.length g.2.2.2.1 (ints g.2.2.2.2) :: .blk b3 (.cells [.slice aA ags.length cg, .int .u8 (used : Int)].toArray 75 (0, 0)) :: T) (0, f, none, 0, []) ⟨Nat.zero_le _, rfl, hf, outs, hal, rfl⟩ sbn pkk ?_
  rintro ⟨k, fk, A1, c1, l1⟩ ⟨hk, hl1, hfk, l2, hl2, hout⟩
  dsimp only at hk hl1 hfk hl2 ⊢
  refine cod_seq ?_
  refine cod_region ?_
  refine lst_int rfl rfl rfl bin_lss ?_
  refine lst_nil ?_
  refine ex_then ?_
  refine cod_seq ?_
  refine cod_cond_dec rfl (fun hc0 => ?_) (fun hc0 => ?_)
  · skip
    have hk' : k < way.length := by omega
    obtain ⟨b, o, rfl, hb, hcell⟩ := hW (by omega)
    obtain ⟨i, hwi⟩ : ∃ i, way[k]? = some i := ⟨_, List.getElem?_eq_getElem hk'⟩
    obtain ⟨hi', hmy, l3, hl3, rfl⟩ := alongF_step hwi hl2
    obtain ⟨gA, hgA⟩ := row_some (ha.own _ hAg) (show 0 < ags.length by omega)
    subst hgA
    obtain ⟨x, hx⟩ : ∃ x, ags[i]? = some x := ⟨_, List.getElem?_eq_getElem hi'⟩
    have hxo : x.ok := hok.2 x (List.mem_of_getElem? hx)
    have hxd : ags.getD i default = x := by rw [List.getD_eq_getElem?_getD, hx]; rfl
    rw [hxd] at hmy hl3 hout
    refine cod_skip ?_
    refine ex_then ?_
    refine cod_seq ?_
    refine cod_block ?_
    refine cod_seq ?_
    refine cod_region ?_
    refine lst_move rfl rfl ?_
    refine lst_index (j := k) rfl rfl rfl Tryd.underlying25 F.ti3 rfl hk' ?_
    refine lst_load_at (v := .int .i64 (i : Int)) rfl rfl F.one3 (fun a w ha => ha.old (hcell k i hwi 0 _ rfl) (Nat.lt_of_lt_of_le hb (Nat.le_of_eq hB))) ?_
    refine lst_assign rfl rfl ?_
    refine lst_assign rfl rfl ?_
    refine lst_nil ?_
    refine ex_then ?_
    refine cod_seq ?_
    refine cod_seq ?_
    refine cod_region ?_
    refine lst_move rfl rfl ?_
    refine lst_field_z rfl rfl F.fi75_0 F.ti72 ?_
    refine lst_load rfl rfl F.one72 ?_
    refine lst_len rfl rfl Tryd.underlying72 ?_
    refine lst_int rfl rfl rfl (fun w => bin_sub w (wrap_i64' _ (by omega) (by have := hok.1; omega))) ?_
    refine lst_fn0 (vs := [_, _, _]) rfl rfl F.ent99 (fun a w ha => outside_c (i : Int) 0 ((ags.length : Int) - 1) w) ?_
    refine lst_nil ?_
    refine ex_then ?_
    refine cod_cond_bool rfl (fun hc1 => ?_) (fun hc1 => ?_)
    · skip
      have : inB (i : Int) 0 ((ags.length : Int) - 1) = true := by rw [inB_true]; omega
      rw [this] at hc1; cases hc1 -- done
    · skip
      refine cod_skip ?_
      refine ex_then ?_
      refine cod_seq ?_
      refine cod_seq ?_
      refine cod_region ?_
      refine lst_field_z rfl rfl F.fi75_0 F.ti72 ?_
      refine lst_load rfl rfl F.one72 ?_
      refine lst_move rfl rfl ?_
      refine lst_index (j := i) rfl rfl rfl Tryd.underlying72 F.ti89 rfl hi' ?_
      refine lst_loadN_at (l := [.int .i64 (x.needs : Int), .int .i64 (x.no : Int), .int .i64 (x.takes : Int), .int .i64 (x.leaves : Int), .int .i64 (x.cost : Int)]) rfl rfl F.agg89 F.ti89 rfl (fun a w ha j u hu => row_at ha (e := 89) (n := ags.length) (c := cg) (cells := Ag.cells) (by simp [hAg]) (fun _ => rfl) hx hu) ?_
      refine lst_move rfl rfl ?_
      refine lst_fn0 (vs := [_, _]) rfl rfl F.ent85 (fun a w ha => may_c x fk hxo (by omega) w) ?_
      refine lst_not rfl rfl ?_
      refine lst_nil ?_
      refine ex_then ?_
      refine cod_cond_bool rfl (fun hc2 => ?_) (fun hc2 => ?_)
      · skip
        rw [hmy] at hc2; cases hc2 -- done
      · skip
        refine cod_skip ?_
        refine ex_then ?_
        refine cod_seq ?_
        refine cod_region ?_
        refine lst_field_z rfl rfl F.fi75_0 F.ti72 ?_
        refine lst_load rfl rfl F.one72 ?_
        refine lst_move rfl rfl ?_
        refine lst_index (j := i) rfl rfl rfl Tryd.underlying72 F.ti89 rfl hi' ?_
        refine lst_loadN_at (l := [.int .i64 (x.needs : Int), .int .i64 (x.no : Int), .int .i64 (x.takes : Int), .int .i64 (x.leaves : Int), .int .i64 (x.cost : Int)]) rfl rfl F.agg89 F.ti89 rfl (fun a w ha j u hu => row_at ha (e := 89) (n := ags.length) (c := cg) (cells := Ag.cells) (by simp [hAg]) (fun _ => rfl) hx hu) ?_
        refine lst_move rfl rfl ?_
        refine lst_fn0 (vs := [_, _]) rfl rfl F.ent91 (fun a w ha => put_c x fk hxo (by omega) w) ?_
        refine lst_assign rfl rfl ?_
        refine lst_nil ?_
        refine ex_then ?_
        refine cod_region ?_
        refine lst_move rfl rfl ?_
        refine lst_move rfl rfl ?_
        refine lst_convert rfl rfl Tryd.underlying77 Tryd.underlying3 (wrap_i64' _ (by omega) (by have := putN_lt hxo hfk; omega)) ?_
        refine lst_lit (vs := [(0, _)]) rfl rfl Tryd.underlying25 F.ti3 rfl rfl rfl ?_
        intro b48
        refine lst_append rfl rfl rfl Tryd.underlying25 F.ti3 rfl rfl rfl (by unfold maxLen; omega) (by omega) ?_
        intro A2 c2
        refine lst_assign rfl rfl ?_
        refine lst_nil ?_
        refine ex_block_normal ?_
        refine ex_then ?_
        refine cod_region ?_
        refine lst_int rfl rfl rfl (fun w => bin_add w (wrap_i64' _ (by omega) (by omega))) ?_
        refine lst_move rfl rfl ?_
        refine lst_nil ?_
        refine ex_round' (k + 1, putN x fk, A2, c2, l1 ++ [putN x fk]) ⟨by omega, by simp; omega, putN_lt hxo hfk, l3, hl3, by rw [hout, List.append_assoc]; rfl⟩ (by (try dsimp only); omega) (by dsimp only; rw [List.length_append, List.length_singleton]; repeat (first | exact Sub.nil _ | refine Sub.cons rfl ?_)) (by dsimp only; rw [List.length_append, List.length_singleton, ints_snoc]; repeat (first | exact Pck.nil _ | exact Pck.refl _ | (apply Pck.cons; focus ((repeat (first | exact Rem.here _ | apply Rem.there)); done)) | refine Pck.skip _ ?_))
  · skip
    refine cod_exit ?_
    refine ex_then_exit ?_
    refine ex_then_exit ?_
    refine ex_block_exit ?_
    refine ex_then ?_
    refine cod_seq ?_
    refine cod_region ?_
    refine lst_move rfl rfl ?_
    refine lst_assign rfl rfl ?_
    refine lst_assign rfl rfl ?_
    refine lst_nil ?_
    refine ex_then ?_
    refine cod_ret ?_
    obtain rfl : k = way.length := by omega
    rw [List.drop_length] at hl2
    obtain rfl : l2 = [] := (Option.some.inj hl2).symm
    rw [List.append_nil] at hout
    subst hout
    exact ex_ret rfl (fun a w ha => res_two rfl rfl rfl ha) (fun _ _ ha' => ⟨A1, c1, rfl, ha.back (ha'.pck pkk)⟩)

theorem as_nil (v : Value) (w : World) : Calls Tryd.prog 96 #[.nilIface, v] w fun e w' => e = .returned (.bool false) ∧ Grew w w' [] := by
  refine enter (N := 42) [(0, .nilIface), (1, v)] Tryd.func96 rfl Tryd.ntmps96 rfl rfl ?_
  refine cod_seq ?_
  refine cod_region ?_
  refine lst_assign rfl rfl ?_
  refine lst_nil ?_
  refine ex_then ?_
  refine cod_seq ?_
  refine cod_seq ?_
  refine cod_region ?_
  refine lst_move rfl rfl ?_
  refine lst_bin rfl rfl rfl (run_eql_nilIface Tryd.underlying107 _) ?_
  refine lst_nil ?_
  refine ex_then ?_
  refine cod_cond_true rfl ?_
  refine cod_seq ?_
  refine cod_region ?_
  refine lst_assign rfl rfl ?_
  refine lst_nil ?_
  refine ex_then ?_
  refine cod_ret ?_
  refine ex_then_ret ?_
  exact ex_ret rfl (fun a w ha => res_one rfl rfl ha) (fun a w ha => ⟨rfl, ha.grown (List.nil_sublist _)⟩)

theorem Put_ok (A : Option Addr) (c : Nat) (ags : List Ag) (hok : Oks ags) (wA : Option Addr) (wc f : Nat) (way outs : List Nat) (hf : f < 64) (hwl : way.length ≤ 20) (hal : alongF ags f way = some outs) (w : World) (hA : RdL Ag.cells 5 w A ags) (hW : RdL ncell 1 w wA way) : Calls Tryd.prog 40 #[.slice A ags.length c, .int .i64 (f : Int), .slice wA way.length wc] w fun e w' => ∃ A' c', e = .returned (.tuple #[.slice A' outs.length c', .int .i64 0]) ∧ Grew w w' [.row 3 1 A' outs.length c' (ints outs)] := by
  have hua : usedAll ags.length < 256 := by have := usedAll_lt hok.1; omega
  refine enter_defers (N := 32) [(0, .slice A ags.length c), (1, .int .i64 (f : Int)), (2, .slice wA way.length wc)] Tryd.func40 rfl Tryd.ntmps40 rfl rfl ?_
  refine cod_seq ?_
  refine cod_region ?_
  refine lst_assign rfl rfl ?_
  refine lst_alloc rfl F.ti35 ?_
  intro b7
  refine lst_nil ?_
  refine ex_then ?_
  refine cod_seq ?_
  refine cod_region ?_
  refine lst_defer (first := []) (cap := []) (vs := [_]) rfl rfl ?_
  refine lst_nil ?_
  refine ex_then ?_
  refine cod_seq ?_
  refine cod_region ?_
  refine lst_move rfl rfl ?_
  refine lst_fn (X := Option Addr × Nat) (vs := [_]) (p := fun _ => True) (val := fun x => .agg [.slice x.1 ags.length x.2, .int .u8 (usedAll ags.length : Nat)].toArray) (rs := fun x => [.row 89 5 x.1 ags.length x.2 (ags.flatMap Ag.cells)]) rfl rfl F.ent75 (fun a w ha => (begin_ok A c ags hok w (hA.later ha.below)).mono (fun e w' h => by obtain ⟨A', c', h1, h2⟩ := h; exact ⟨(A', c'), trivial, h1, h2⟩)) ?_
  rintro ⟨aA, cg⟩ -
  dsimp only [List.cons_append, List.nil_append]
  refine lst_alloc rfl F.ti75 ?_
  intro b8
  refine lst_store rfl rfl F.ti75 rfl ?_
  refine lst_nil ?_
  refine ex_then ?_
  refine cod_seq ?_
  refine cod_region ?_
  refine lst_move rfl rfl ?_
  refine lst_fn0 (vs := [_]) rfl rfl F.ent76 (fun a w ha => melt_ok f hf w) ?_
  refine lst_assign rfl rfl ?_
  refine lst_nil ?_
  refine ex_then ?_
  refine cod_seq ?_
  refine cod_seq ?_
  refine cod_region ?_
  refine lst_move rfl rfl ?_
  refine lst_len rfl rfl Tryd.underlying25 ?_
  refine lst_int rfl rfl rfl bin_gtr ?_
  refine lst_nil ?_
  refine ex_then ?_
  refine cod_cond_dec rfl (fun hc0 => ?_) (fun hc0 => ?_)
  · skip
    exact absurd hc0 (by omega) -- done
  · skip
    refine cod_skip ?_
    refine ex_then ?_
    refine cod_seq ?_
    refine cod_region ?_
    refine lst_loadN rfl rfl F.agg75 F.ti75 ?_
    refine lst_move rfl rfl ?_
    refine lst_move rfl rfl ?_
    refine lst_call (X := Option Addr × Nat) (first := []) (cap := []) (vs := [_, _, _]) (p := fun _ => True) (val := fun x => .tuple #[.slice x.1 outs.length x.2, .nilIface]) (rs := fun x => .row 3 1 x.1 outs.length x.2 (ints outs) :: .blk b8 (.cells [.slice aA ags.length cg, .int .u8 (usedAll ags.length : Nat)].toArray 75 (0, 0)) :: .row 89 5 aA ags.length cg (ags.flatMap Ag.cells) :: [.blk b7 (.cells [.int .i64 0].toArray 35 (0, 0))]) rfl rfl rfl F.ent95 (fun a w ha => (along_ok rfl hok hf hwl hal rfl hW (by simp) ha).mono (fun e w' h => by obtain ⟨A', c', h1, h2⟩ := h; exact ⟨(A', c'), trivial, h1, h2⟩)) ?_
    rintro ⟨A1, c1⟩ -
    dsimp only
    refine lst_move rfl rfl ?_
    refine lst_extract rfl rfl rfl ?_
    refine lst_extract rfl rfl rfl ?_
    refine lst_assign rfl rfl ?_
    refine lst_assign rfl rfl ?_
    refine lst_nil ?_
    refine ex_then ?_
    refine cod_seq ?_
    refine cod_region ?_
    refine lst_alloc rfl F.ti111 ?_
    intro b11
    refine lst_nil ?_
    refine ex_then ?_
    refine cod_seq ?_
    refine cod_seq ?_
    refine cod_region ?_
    refine lst_move rfl rfl ?_
    refine lst_makeInterface rfl rfl Tryd.underlying113 rfl ?_
    refine lst_fn0 (vs := [_, _]) rfl rfl F.ent96 (fun a w ha => as_nil _ w) ?_
    refine lst_nil ?_
    refine ex_then ?_
    refine cod_cond_false rfl ?_
    refine cod_skip ?_
    refine ex_then ?_
    refine cod_seq ?_
    refine cod_region ?_
    refine lst_move rfl rfl ?_
    refine lst_assign rfl rfl ?_
    refine lst_store rfl rfl F.ti35 rfl ?_
    refine lst_nil ?_
    refine ex_then ?_
    refine cod_ret ?_
    exact ex_ret_caught (fun a w ha => ⟨_, res_tc (fn := Tryd.f40) ha rfl rfl rfl F.one35, A1, c1, rfl, ha.grown sbl⟩)

end Go.Proofs.YtofkhehcnfiopaaDoor.N
namespace Go.Proofs.YtofkhehcnfiopaaDoor.N
open Go Go.RowKit Go.Proofs
set_option linter.unusedSectionVars false
variable [I : Sys]
/-- What it costs to clear a melt. -/
structure Pr where
  cost : Nat
  puts : Nat
  known : Bool
  deriving DecidableEq, Inhabited
def Pr.cells (p : Pr) : List Value := [.int .i64 (p.cost : Int), .int .i64 (p.puts : Int), .bool p.known]
def lessP (a b : Pr) : Bool := a.known && (!b.known || decide (a.cost < b.cost) || (decide (a.cost = b.cost) && decide (a.puts < b.puts)))
def afterP (ps : List Pr) (x : Ag) (f : Nat) : Pr := { cost := (ps.getD (putN x f) default).cost + x.cost, puts := (ps.getD (putN x f) default).puts + 1, known := (ps.getD (putN x f) default).known }
/-- One agent looked at for one melt. -/
def relax (ags : List Ag) (f : Nat) (s : List Pr × Bool) (i : Nat) : List Pr × Bool :=
  if lessP (afterP s.1 (ags.getD i default) f) (s.1.getD f default) = true then (s.1.set f (afterP s.1 (ags.getD i default) f), true) else s
def relaxF (ags : List Ag) (f : Nat) (s : List Pr × Bool) (l : List Nat) : List Pr × Bool := l.foldl (relax ags f) s
/-- A round over the first melts. -/
def roundP (ags : List Ag) (used : Nat) (ps : List Pr) : Nat → List Pr × Bool
  | 0 => (ps, false)
  | f + 1 => relaxF ags f (roundP ags used ps f) (canTo ags used f ags.length)
def initP (p : Nat) (k : Nat) : List Pr := (List.range 64).map fun n => if n < k then ⟨0, 0, decide (nn n p = 0)⟩ else ⟨0, 0, false⟩
def iterP (ags : List Ag) (used p : Nat) : Nat → List Pr
  | 0 => initP p 64
  | j + 1 => (roundP ags used (iterP ags used p j) 64).1
/-- Prices that are not too high. -/
def Bd (ps : List Pr) (m : Nat) : Prop := ps.length = 64 ∧ ∀ p ∈ ps, p.puts ≤ m ∧ p.cost ≤ 9 * m
theorem Bd.get {ps : List Pr} {m : Nat} (h : Bd ps m) (k : Nat) : (ps.getD k default).puts ≤ m ∧ (ps.getD k default).cost ≤ 9 * m := by
  rw [List.getD_eq_getElem?_getD]
  cases hk : ps[k]? with
  | none => exact ⟨Nat.zero_le _, Nat.zero_le _⟩
  | some p => exact h.2 p (List.mem_of_getElem? hk)
theorem Bd.mono {ps : List Pr} {m m' : Nat} (h : Bd ps m) (hm : m ≤ m') : Bd ps m' := ⟨h.1, fun p hp => by have := h.2 p hp; omega⟩
theorem Bd.after {ps : List Pr} {m : Nat} (h : Bd ps m) {x : Ag} (hx : x.cost ≤ 9) (f : Nat) : (afterP ps x f).puts ≤ m + 1 ∧ (afterP ps x f).cost ≤ 9 * (m + 1) := by
  have := h.get (putN x f)
  unfold afterP
  dsimp only
  omega
theorem Bd.set {ps : List Pr} {m : Nat} (h : Bd ps m) {p : Pr} (hp : p.puts ≤ m ∧ p.cost ≤ 9 * m) (f : Nat) : Bd (ps.set f p) m :=
  ⟨by rw [List.length_set]; exact h.1, fun q hq => by
    rcases List.mem_or_eq_of_mem_set hq with h1 | h1
    · exact h.2 q h1
    · subst h1; exact hp⟩
theorem Bd.init (p k : Nat) : Bd (initP p k) 0 := by
  refine ⟨by simp [initP], fun q hq => ?_⟩
  unfold initP at hq
  obtain ⟨n, _, rfl⟩ := List.mem_map.1 hq
  split <;> exact ⟨Nat.le_refl _, Nat.le_refl _⟩
theorem initP_set (p : Nat) {k : Nat} (hk : k < 64) : (initP p k).set k ⟨0, 0, decide (nn k p = 0)⟩ = initP p (k + 1) := by
  unfold initP
  apply List.ext_getElem?
  intro i
  rw [List.getElem?_set]
  by_cases hi : i < 64
  · by_cases e : k = i
    · subst e
      simp [hk]
    · have : (i < k + 1) ↔ (i < k) := by omega
      simp [e, hi, this]
  · have e : ¬ k = i := by omega
    simp [e, hi]
theorem initP_get (p : Nat) {k : Nat} (hk : k < 64) : (initP p k)[k]? = some ⟨0, 0, false⟩ := by
  unfold initP
  simp [hk]
theorem Bd.relax {ags : List Ag} {f m : Nat} {s : List Pr × Bool} (h : Bd s.1 m) {i : Nat} (hx : (ags.getD i default).cost ≤ 9) : Bd (relax ags f s i).1 (m + 1) := by
  unfold Go.Proofs.YtofkhehcnfiopaaDoor.N.relax
  split
  · exact (h.mono (Nat.le_succ _)).set (h.after hx f) f
  · exact h.mono (Nat.le_succ _)
theorem Bd.relaxF {ags : List Ag} {f : Nat} (hok : ∀ x ∈ ags, x.ok) : ∀ (l : List Nat) (m : Nat) (s : List Pr × Bool), Bd s.1 m → Bd (Go.Proofs.YtofkhehcnfiopaaDoor.N.relaxF ags f s l).1 (m + l.length) := by
  intro l
  induction l with
  | nil => intro m s h; exact h
  | cons i l ih =>
    intro m s h
    have h1 : (ags.getD i default).cost ≤ 9 := by
      rw [List.getD_eq_getElem?_getD]
      cases hk : ags[i]? with
      | none => exact Nat.zero_le _
      | some x => exact (hok x (List.mem_of_getElem? hk)).cost.2
    have := ih (m + 1) _ (h.relax (f := f) h1)
    unfold Go.Proofs.YtofkhehcnfiopaaDoor.N.relaxF at this ⊢
    rw [List.foldl_cons, List.length_cons]
    exact this.mono (by omega)
/-- The cells of a market. -/
def mcells (fn : Value) (ps : List Pr) : List Value := fn :: ps.flatMap Pr.cells
theorem mcells_len (fn : Value) (ps : List Pr) : (mcells fn ps).length = 1 + ps.length * 3 := by
  have : ∀ l : List Pr, (l.flatMap Pr.cells).length = l.length * 3 := by
    intro l
    induction l with
    | nil => rfl
    | cons p l ih => rw [List.flatMap_cons, List.length_append, ih, List.length_cons]; simp [Pr.cells]; omega
  unfold mcells
  rw [List.length_cons, this]
  omega
theorem mcells_get (fn : Value) (ps : List Pr) {k j : Nat} {p : Pr} {u : Value} (hk : ps[k]? = some p) (hu : p.cells[j]? = some u) : (mcells fn ps)[1 + k * 3 + j]? = some u := by
  unfold mcells
  rw [show 1 + k * 3 + j = (k * 3 + j) + 1 by omega, List.getElem?_cons_succ]
  exact flatMap_get (cells := Pr.cells) (size := 3) (fun _ => rfl) ps k p hk j u hu
theorem flatMap_set (ps : List Pr) : ∀ (k : Nat) (p : Pr), k < ps.length → (ps.flatMap Pr.cells).take (k * 3) ++ p.cells ++ (ps.flatMap Pr.cells).drop (k * 3 + 3) = (ps.set k p).flatMap Pr.cells := by
  induction ps with
  | nil => intro k p h; cases h
  | cons q ps ih =>
    intro k p h
    cases k with
    | zero => simp [Pr.cells]
    | succ k =>
      have := ih k p (by simpa using h)
      rw [List.set_cons_succ, List.flatMap_cons, List.flatMap_cons, ← this]
      have hq : q.cells.length = 3 := rfl
      have e1 : (q.cells ++ ps.flatMap Pr.cells).take ((k + 1) * 3) = q.cells ++ (ps.flatMap Pr.cells).take (k * 3) := by
        rw [show (k + 1) * 3 = q.cells.length + k * 3 by omega, List.take_length_add_append]
      have e2 : (q.cells ++ ps.flatMap Pr.cells).drop ((k + 1) * 3 + 3) = (ps.flatMap Pr.cells).drop (k * 3 + 3) := by
        rw [show (k + 1) * 3 + 3 = q.cells.length + (k * 3 + 3) by omega, List.drop_length_add_append]
      rw [e1, e2]
      simp only [List.append_assoc]
/-- A price put into a market: three cells. -/
theorem mcells_splice (fn : Value) (ps : List Pr) {k : Nat} (hk : k < ps.length) (p : Pr) : Splice (mcells fn ps) (1 + k * 3) p.cells (mcells fn (ps.set k p)) := ⟨by
  unfold mcells
  rw [← flatMap_set ps k p hk]
  rw [show 1 + k * 3 = k * 3 + 1 by omega, show k * 3 + 1 + p.cells.length = (k * 3 + 3) + 1 from rfl]
  simp, by
  rw [mcells_len]
  show 1 + k * 3 + 3 ≤ _
  omega⟩
/-- Whether it is known, put into a market. -/
theorem mcells_known (fn : Value) (ps : List Pr) {k : Nat} {p : Pr} (hk : ps[k]? = some p) (b : Bool) : mcells fn (ps.set k { p with known := b }) = (mcells fn ps).set (1 + k * 3 + 2) (.bool b) := by
  have hlt := (List.getElem?_eq_some_iff.1 hk).1
  have h := (mcells_splice fn ps hlt { p with known := b }).eq
  rw [h]
  have hg0 := mcells_get fn ps (j := 0) hk rfl
  have hg1 := mcells_get fn ps (j := 1) hk rfl
  have hl := mcells_len fn ps
  apply List.ext_getElem?
  intro i
  rw [List.getElem?_set]
  have hl1 : ((mcells fn ps).take (1 + k * 3)).length = 1 + k * 3 := by rw [List.length_take, hl]; omega
  have hc : ({ p with known := b } : Pr).cells = [.int .i64 (p.cost : Int), .int .i64 (p.puts : Int), .bool b] := rfl
  rw [hc]
  by_cases h1 : i < 1 + k * 3
  · rw [List.append_assoc, List.getElem?_append_left (by omega), if_neg (by omega), List.getElem?_take, if_pos h1]
  · by_cases h2 : i < 1 + k * 3 + 3
    · rw [List.getElem?_append_left (by simp [hl1]; omega), List.getElem?_append_right (by omega), hl1]
      rcases (show i = 1 + k * 3 ∨ i = 1 + k * 3 + 1 ∨ i = 1 + k * 3 + 2 by omega) with e | e | e
      · subst e
        rw [if_neg (by omega), Nat.sub_self]
        rw [Nat.add_zero] at hg0
        rw [hg0]; rfl
      · subst e
        rw [if_neg (by omega), hg1, show 1 + k * 3 + 1 - (1 + k * 3) = 1 by omega]; rfl
      · subst e
        rw [if_pos rfl, if_pos (by omega), show 1 + k * 3 + 2 - (1 + k * 3) = 2 by omega]; rfl
    · rw [List.getElem?_append_right (by simp [hl1]; omega), if_neg (by omega), List.getElem?_drop]
      congr 1
      simp [hl1]; omega
end Go.Proofs.YtofkhehcnfiopaaDoor.N
namespace Go.Proofs.YtofkhehcnfiopaaDoor.N
open Go Go.RowKit Go.Proofs
set_option linter.unusedSectionVars false
variable [I : Sys]
theorem lst_know {C : Ctx} {fr : List (Nat × Value)} {hp : List Res} {ops : Array Oper} {Q : Exit → Act → World → Prop} {l : List Oper} {φ : Prop} (h : ∀ a w, At C fr hp a w → φ) (k : φ → Lst C ops Q l fr hp) : Lst C ops Q l fr hp := fun a w ha => k (h a w ha) a w ha
theorem cod_know {C : Ctx} {fr : List (Nat × Value)} {hp : List Res} {Q : Exit → Act → World → Prop} {c : Code} {φ : Prop} (h : ∀ a w, At C fr hp a w → φ) (k : φ → Cod C c Q fr hp) : Cod C c Q fr hp := fun a w ha => k (h a w ha) a w ha
theorem mcells_box (fn : Value) (hf : fn.oneCell' = true) (ps : List Pr) : Cells (.agg (mcells fn ps).toArray) (mcells fn ps) := ⟨rfl, by
  intro u hu
  unfold mcells at hu
  rcases List.mem_cons.1 hu with h | h
  · subst h; exact hf
  · obtain ⟨p, _, hp⟩ := List.mem_flatMap.1 h
    simp [Pr.cells] at hp
    rcases hp with h | h | h <;> subst h <;> simp [Value.oneCell']⟩
theorem ints_get {l : List Nat} {t i : Nat} (h : l[t]? = some i) : (ints l)[t * 1]? = some (.int .i64 (i : Int)) := by
  rw [Nat.mul_one]
  unfold ints
  rw [List.getElem?_map, h]; rfl
theorem Bd.round {ags : List Ag} {used m : Nat} {ps : List Pr} (hok : Oks ags) (h : Bd ps m) : ∀ k, Bd (roundP ags used ps k).1 (m + 4 * k)
  | 0 => h
  | k + 1 => by
    have h1 := Bd.relaxF (f := k) hok.2 (canTo ags used k ags.length) _ _ (Bd.round (used := used) hok h k)
    have h2 := canTo_len ags used k ags.length
    have h3 := hok.1
    exact h1.mono (by omega)
theorem Bd.iter {ags : List Ag} {used p : Nat} (hok : Oks ags) : ∀ j, Bd (iterP ags used p j) (256 * j)
  | 0 => Bd.init p 64
  | j + 1 => (Bd.round (used := used) hok (Bd.iter (used := used) (p := p) hok j) 64).mono (by omega)
theorem Bd.at {ags : List Ag} {used p : Nat} (hok : Oks ags) (j k t : Nat) (ht : t ≤ 4) : Bd (Go.Proofs.YtofkhehcnfiopaaDoor.N.relaxF ags k (roundP ags used (iterP ags used p j) k) ((canTo ags used k ags.length).take t)).1 (256 * j + 4 * k + 4) := by
  have h1 := Bd.relaxF (f := k) hok.2 ((canTo ags used k ags.length).take t) _ _ (Bd.round (used := used) hok (Bd.iter (used := used) (p := p) hok j) k)
  exact h1.mono (by rw [List.length_take]; omega)
theorem relaxF_snoc {ags : List Ag} {f t i : Nat} {s : List Pr × Bool} {l : List Nat} (h : l[t]? = some i) : relaxF ags f s (l.take (t + 1)) = relax ags f (relaxF ags f s (l.take t)) i := by
  unfold relaxF
  rw [List.take_add_one, h, List.foldl_append]; rfl
theorem canTo_mem {ags : List Ag} {used f k i : Nat} (h : i ∈ canTo ags used f k) : i < k ∧ used.testBit i = true ∧ mayN (ags.getD i default) f = true := by
  unfold canTo at h
  obtain ⟨h1, h2⟩ := List.mem_filter.1 h
  have := List.mem_range.1 h1
  simp at h2
  exact ⟨this, h2⟩
theorem getD_some {ps : List Pr} {k : Nat} (hk : k < ps.length) : ps[k]? = some (ps.getD k default) := by
  rw [List.getD_eq_getElem?_getD, List.getElem?_eq_getElem hk]; rfl
end Go.Proofs.YtofkhehcnfiopaaDoor.N
namespace Go.Proofs.YtofkhehcnfiopaaDoor.N
open Go Go.RowKit Go.Proofs
set_option linter.unusedSectionVars false
variable [I : Sys]
theorem F.agg95 : aggB Tryd.prog 95 = true := by unfold aggB; rw [Tryd.underlying95]
theorem F.ent116 : Enters Tryd.prog 116 := enters_of Tryd.func116 rfl (by kernel_rfl)
theorem F.ent89 : Enters Tryd.prog 89 := enters_of Tryd.func89 rfl (by kernel_rfl)
theorem F.ent90 : Enters Tryd.prog 90 := enters_of Tryd.func90 rfl (by kernel_rfl)
theorem F.fi95_0 : FI Tryd.prog 95 0 3 0 := ⟨_, _, Tryd.underlying95, rfl, rfl, rfl⟩
theorem F.fi95_1 : FI Tryd.prog 95 1 3 1 := ⟨_, _, Tryd.underlying95, rfl, rfl, rfl⟩
theorem F.fi95_2 : FI Tryd.prog 95 2 4 2 := ⟨_, _, Tryd.underlying95, rfl, rfl, rfl⟩
theorem F.fi99_0 : FI Tryd.prog 99 0 96 0 := ⟨_, _, Tryd.underlying99, rfl, rfl, rfl⟩
theorem F.fi99_1 : FI Tryd.prog 99 1 97 1 := ⟨_, _, Tryd.underlying99, rfl, rfl, rfl⟩
theorem F.one4 : One Tryd.prog 4 := ⟨by unfold aggB; rw [Tryd.underlying4], by rw [Tryd.underlying4]; simp⟩
theorem F.one96 : One Tryd.prog 96 := ⟨by unfold aggB; rw [Tryd.underlying96], by rw [Tryd.underlying96]; simp⟩
theorem F.pl95 : Places Tryd.prog 95 [(0, 1), (1, 1), (2, 1)] := .inl ⟨_, Tryd.underlying95, by kernel_rfl⟩
theorem F.ti4 : TI Tryd.prog 4 (.bool false) 1 1 := TI.of (by kernel_rfl)
theorem F.ti95 : TI Tryd.prog 95 (.agg [.int .i64 0, .int .i64 0, .bool false].toArray) 3 24 := TI.of (by kernel_rfl)
theorem F.ti96 : TI Tryd.prog 96 (.nilFunc) 1 8 := TI.of (by kernel_rfl)
theorem F.ti97 : TI Tryd.prog 97 (.agg [.int .i64 0, .int .i64 0, .bool false, .int .i64 0, .int .i64 0, .bool false, .int .i64 0, .int .i64 0, .bool false, .int .i64 0, .int .i64 0, .bool false, .int .i64 0, .int .i64 0, .bool false, .int .i64 0, .int .i64 0, .bool false, .int .i64 0, .int .i64 0, .bool false, .int .i64 0, .int .i64 0, .bool false, .int .i64 0, .int .i64 0, .bool false, .int .i64 0, .int .i64 0, .bool false, .int .i64 0, .int .i64 0, .bool false, .int .i64 0, .int .i64 0, .bool false, .int .i64 0, .int .i64 0, .bool false, .int .i64 0, .int .i64 0, .bool false, .int .i64 0, .int .i64 0, .bool false, .int .i64 0, .int .i64 0, .bool false, .int .i64 0, .int .i64 0, .bool false, .int .i64 0, .int .i64 0, .bool false, .int .i64 0, .int .i64 0, .bool false, .int .i64 0, .int .i64 0, .bool false, .int .i64 0, .int .i64 0, .bool false, .int .i64 0, .int .i64 0, .bool false, .int .i64 0, .int .i64 0, .bool false, .int .i64 0, .int .i64 0, .bool false, .int .i64 0, .int .i64 0, .bool false, .int .i64 0, .int .i64 0, .bool false, .int .i64 0, .int .i64 0, .bool false, .int .i64 0, .int .i64 0, .bool false, .int .i64 0, .int .i64 0, .bool false, .int .i64 0, .int .i64 0, .bool false, .int .i64 0, .int .i64 0, .bool false, .int .i64 0, .int .i64 0, .bool false, .int .i64 0, .int .i64 0, .bool false, .int .i64 0, .int .i64 0, .bool false, .int .i64 0, .int .i64 0, .bool false, .int .i64 0, .int .i64 0, .bool false, .int .i64 0, .int .i64 0, .bool false, .int .i64 0, .int .i64 0, .bool false, .int .i64 0, .int .i64 0, .bool false, .int .i64 0, .int .i64 0, .bool false, .int .i64 0, .int .i64 0, .bool false, .int .i64 0, .int .i64 0, .bool false, .int .i64 0, .int .i64 0, .bool false, .int .i64 0, .int .i64 0, .bool false, .int .i64 0, .int .i64 0, .bool false, .int .i64 0, .int .i64 0, .bool false, .int .i64 0, .int .i64 0, .bool false, .int .i64 0, .int .i64 0, .bool false, .int .i64 0, .int .i64 0, .bool false, .int .i64 0, .int .i64 0, .bool false, .int .i64 0, .int .i64 0, .bool false, .int .i64 0, .int .i64 0, .bool false, .int .i64 0, .int .i64 0, .bool false, .int .i64 0, .int .i64 0, .bool false, .int .i64 0, .int .i64 0, .bool false, .int .i64 0, .int .i64 0, .bool false, .int .i64 0, .int .i64 0, .bool false, .int .i64 0, .int .i64 0, .bool false, .int .i64 0, .int .i64 0, .bool false, .int .i64 0, .int .i64 0, .bool false, .int .i64 0, .int .i64 0, .bool false, .int .i64 0, .int .i64 0, .bool false, .int .i64 0, .int .i64 0, .bool false, .int .i64 0, .int .i64 0, .bool false].toArray) 192 1536 := TI.of (by kernel_rfl)
theorem less_c (u v : Pr) (w : World) : Calls Tryd.prog 116 #[.agg [.int .i64 (u.cost : Int), .int .i64 (u.puts : Int), .bool u.known].toArray, .agg [.int .i64 (v.cost : Int), .int .i64 (v.puts : Int), .bool v.known].toArray] w fun e w' => e = .returned (.bool (lessP u v)) ∧ Grew w w' [] := by
  refine enter (N := 33) [(0, .agg [.int .i64 (u.cost : Int), .int .i64 (u.puts : Int), .bool u.known].toArray), (1, .agg [.int .i64 (v.cost : Int), .int .i64 (v.puts : Int), .bool v.known].toArray)] Tryd.func116 rfl Tryd.ntmps116 rfl rfl ?_
  refine cod_seq ?_
  refine cod_region ?_
  refine lst_box rfl rfl ?_
  intro b2
  refine lst_box rfl rfl ?_
  intro b3
  refine lst_assign rfl rfl ?_
  refine lst_nil ?_
  refine ex_then ?_
  refine cod_seq ?_
  refine cod_region ?_
  refine lst_cut1 28 32 (.bool (lessP u v)) ?_ ?_
  · skip
    refine lst_field_z rfl rfl F.fi95_2 F.ti4 ?_
    refine lst_load rfl rfl F.one4 ?_
    refine lst_move rfl rfl ?_
    refine lst_split_bool (t := 7) rfl (fun hg7 => ?_) (fun hg7 => ?_)
    · skip
      refine lst_on rfl rfl ?_
      refine lst_field_z rfl rfl F.fi95_2 F.ti4 ?_
      refine lst_on rfl rfl ?_
      refine lst_load rfl rfl F.one4 ?_
      refine lst_on rfl rfl ?_
      refine lst_not rfl rfl ?_
      refine lst_on rfl rfl ?_
      refine lst_move rfl rfl ?_
      refine lst_split_bool (t := 11) rfl (fun hg11 => ?_) (fun hg11 => ?_)
      · skip
        refine lst_off rfl rfl rfl ?_
        refine lst_off rfl rfl rfl ?_
        refine lst_off rfl rfl rfl ?_
        refine lst_off rfl rfl rfl ?_
        refine lst_off rfl rfl rfl ?_
        refine lst_on rfl rfl ?_
        refine lst_pick_true rfl rfl rfl ?_
        refine lst_on rfl rfl ?_
        refine lst_move rfl rfl ?_
        refine lst_split_bool (t := 18) rfl (fun hg18 => ?_) (fun hg18 => ?_)
        · skip
          refine lst_off rfl rfl rfl ?_
          refine lst_off rfl rfl rfl ?_
          refine lst_off rfl rfl rfl ?_
          refine lst_off rfl rfl rfl ?_
          refine lst_off rfl rfl rfl ?_
          refine lst_off rfl rfl rfl ?_
          refine lst_offu rfl rfl rfl ?_
          refine lst_offu rfl rfl rfl ?_
          refine lst_offu rfl rfl rfl ?_
          refine lst_offu rfl rfl rfl ?_
          refine lst_offu rfl rfl rfl ?_
          refine lst_off rfl rfl rfl ?_
          refine lst_on rfl rfl ?_
          refine lst_pick_true rfl rfl rfl ?_
          refine lst_pick_true rfl rfl rfl ?_
          refine lst_nil ?_
          exact ex_cut (.cons (by simp_all [look, lessP] <;> (try rw [Bool.eq_iff_iff]) <;> (try simp) <;> omega) sbn) sbl
        · skip
          refine lst_on rfl rfl ?_
          refine lst_field_z rfl rfl F.fi95_0 F.ti3 ?_
          refine lst_on rfl rfl ?_
          refine lst_load rfl rfl F.one3 ?_
          refine lst_on rfl rfl ?_
          refine lst_field_z rfl rfl F.fi95_0 F.ti3 ?_
          refine lst_on rfl rfl ?_
          refine lst_load rfl rfl F.one3 ?_
          refine lst_on rfl rfl ?_
          refine lst_int rfl rfl rfl bin_eql ?_
          refine lst_on rfl rfl ?_
          refine lst_move rfl rfl ?_
          refine lst_split (t := 24) rfl (fun hg24 => ?_) (fun hg24 => ?_)
          · skip
            refine lst_on rfl rfl ?_
            refine lst_field_z rfl rfl F.fi95_1 F.ti3 ?_
            refine lst_on rfl rfl ?_
            refine lst_load rfl rfl F.one3 ?_
            refine lst_on rfl rfl ?_
            refine lst_field_z rfl rfl F.fi95_1 F.ti3 ?_
            refine lst_on rfl rfl ?_
            refine lst_load rfl rfl F.one3 ?_
            refine lst_on rfl rfl ?_
            refine lst_int rfl rfl rfl bin_lss ?_
            refine lst_on rfl rfl ?_
            refine lst_pick_true rfl rfl rfl ?_
            refine lst_on rfl rfl ?_
            refine lst_pick_false rfl rfl rfl ?_
            refine lst_pick_true rfl rfl rfl ?_
            refine lst_nil ?_
            exact ex_cut (.cons (by simp_all [] <;> (try rw [Bool.eq_iff_iff]) <;> (try simp) <;> omega) sbn) sbl
          · skip
            refine lst_off rfl rfl rfl ?_
            refine lst_off rfl rfl rfl ?_
            refine lst_off rfl rfl rfl ?_
            refine lst_off rfl rfl rfl ?_
            refine lst_off rfl rfl rfl ?_
            refine lst_on rfl rfl ?_
            refine lst_pick_false rfl rfl rfl ?_
            refine lst_on rfl rfl ?_
            refine lst_pick_false rfl rfl rfl ?_
            refine lst_pick_true rfl rfl rfl ?_
            refine lst_nil ?_
            exact ex_cut (.cons (by simp_all [] <;> (try rw [Bool.eq_iff_iff]) <;> (try simp) <;> omega) sbn) sbl
      · skip
        refine lst_on rfl rfl ?_
        refine lst_field_z rfl rfl F.fi95_0 F.ti3 ?_
        refine lst_on rfl rfl ?_
        refine lst_load rfl rfl F.one3 ?_
        refine lst_on rfl rfl ?_
        refine lst_field_z rfl rfl F.fi95_0 F.ti3 ?_
        refine lst_on rfl rfl ?_
        refine lst_load rfl rfl F.one3 ?_
        refine lst_on rfl rfl ?_
        refine lst_int rfl rfl rfl bin_lss ?_
        refine lst_on rfl rfl ?_
        refine lst_pick_false rfl rfl rfl ?_
        refine lst_on rfl rfl ?_
        refine lst_move rfl rfl ?_
        refine lst_split_bool (t := 18) rfl (fun hg18 => ?_) (fun hg18 => ?_)
        · skip
          refine lst_off rfl rfl rfl ?_
          refine lst_off rfl rfl rfl ?_
          refine lst_off rfl rfl rfl ?_
          refine lst_off rfl rfl rfl ?_
          refine lst_off rfl rfl rfl ?_
          refine lst_off rfl rfl rfl ?_
          refine lst_offu rfl rfl rfl ?_
          refine lst_offu rfl rfl rfl ?_
          refine lst_offu rfl rfl rfl ?_
          refine lst_offu rfl rfl rfl ?_
          refine lst_offu rfl rfl rfl ?_
          refine lst_off rfl rfl rfl ?_
          refine lst_on rfl rfl ?_
          refine lst_pick_true rfl rfl rfl ?_
          refine lst_pick_true rfl rfl rfl ?_
          refine lst_nil ?_
          exact ex_cut (.cons (by simp_all [look, lessP] <;> (try rw [Bool.eq_iff_iff]) <;> (try simp) <;> omega) sbn) sbl
        · skip
          refine lst_on rfl rfl ?_
          refine lst_field_z rfl rfl F.fi95_0 F.ti3 ?_
          refine lst_on rfl rfl ?_
          refine lst_load rfl rfl F.one3 ?_
          refine lst_on rfl rfl ?_
          refine lst_field_z rfl rfl F.fi95_0 F.ti3 ?_
          refine lst_on rfl rfl ?_
          refine lst_load rfl rfl F.one3 ?_
          refine lst_on rfl rfl ?_
          refine lst_int rfl rfl rfl bin_eql ?_
          refine lst_on rfl rfl ?_
          refine lst_move rfl rfl ?_
          refine lst_split (t := 24) rfl (fun hg24 => ?_) (fun hg24 => ?_)
          · skip
            refine lst_on rfl rfl ?_
            refine lst_field_z rfl rfl F.fi95_1 F.ti3 ?_
            refine lst_on rfl rfl ?_
            refine lst_load rfl rfl F.one3 ?_
            refine lst_on rfl rfl ?_
            refine lst_field_z rfl rfl F.fi95_1 F.ti3 ?_
            refine lst_on rfl rfl ?_
            refine lst_load rfl rfl F.one3 ?_
            refine lst_on rfl rfl ?_
            refine lst_int rfl rfl rfl bin_lss ?_
            refine lst_on rfl rfl ?_
            refine lst_pick_true rfl rfl rfl ?_
            refine lst_on rfl rfl ?_
            refine lst_pick_false rfl rfl rfl ?_
            refine lst_pick_true rfl rfl rfl ?_
            refine lst_nil ?_
            exact ex_cut (.cons (by simp_all [look, lessP] <;> (try rw [Bool.eq_iff_iff]) <;> (try simp) <;> omega) sbn) sbl
          · skip
            refine lst_off rfl rfl rfl ?_
            refine lst_off rfl rfl rfl ?_
            refine lst_off rfl rfl rfl ?_
            refine lst_off rfl rfl rfl ?_
            refine lst_off rfl rfl rfl ?_
            refine lst_on rfl rfl ?_
            refine lst_pick_false rfl rfl rfl ?_
            refine lst_on rfl rfl ?_
            refine lst_pick_false rfl rfl rfl ?_
            refine lst_pick_true rfl rfl rfl ?_
            refine lst_nil ?_
            exact ex_cut (.cons (by simp_all [look, lessP] <;> (try rw [Bool.eq_iff_iff]) <;> (try simp) <;> omega) sbn) sbl
    · skip
      refine lst_off rfl rfl rfl ?_
      refine lst_off rfl rfl rfl ?_
      refine lst_off rfl rfl rfl ?_
      refine lst_off rfl rfl rfl ?_
      refine lst_offu rfl rfl rfl ?_
      refine lst_offu rfl rfl rfl ?_
      refine lst_offu rfl rfl rfl ?_
      refine lst_offu rfl rfl rfl ?_
      refine lst_offu rfl rfl rfl ?_
      refine lst_off rfl rfl rfl ?_
      refine lst_off rfl rfl rfl ?_
      refine lst_offu rfl rfl rfl ?_
      refine lst_offu rfl rfl rfl ?_
      refine lst_offu rfl rfl rfl ?_
      refine lst_offu rfl rfl rfl ?_
      refine lst_offu rfl rfl rfl ?_
      refine lst_offu rfl rfl rfl ?_
      refine lst_offu rfl rfl rfl ?_
      refine lst_offu rfl rfl rfl ?_
      refine lst_offu rfl rfl rfl ?_
      refine lst_offu rfl rfl rfl ?_
      refine lst_offu rfl rfl rfl ?_
      refine lst_offu rfl rfl rfl ?_
      refine lst_off rfl rfl rfl ?_
      refine lst_pick_false rfl rfl rfl ?_
      refine lst_nil ?_
      exact ex_cut (.cons (by simp_all [look, lessP] <;> (try rw [Bool.eq_iff_iff]) <;> (try simp) <;> omega) sbn) sbl
  refine lst_assign rfl rfl ?_
  refine lst_nil ?_
  refine ex_then ?_
  refine cod_ret ?_
  refine ex_ret rfl (fun a w ha => res_one rfl rfl ha) (fun a w ha => ?_)
  exact ⟨by rfl, ha.grown (List.nil_sublist _)⟩

theorem after_c {C : Ctx} {fr : List (Nat × Value)} {T : List Res} {a : Act} {w : World} (hC : C.P = Tryd.prog) {bm f m : Nat} {fn : Value} {ps : List Pr} {x : Ag} (hxo : x.ok) (hf : f < 64) (hps : Bd ps m) (hm : m ≤ 100000000) (ha : At C fr (.blk bm (.cells (mcells fn ps).toArray 99 (0, 0)) :: T) a w) : Calls C.P 90 #[.pointer (some ⟨bm, 0, none⟩), .agg [.int .i64 (x.needs : Int), .int .i64 (x.no : Int), .int .i64 (x.takes : Int), .int .i64 (x.leaves : Int), .int .i64 (x.cost : Int)].toArray, .int .u8 (f : Int)] w fun e w' => e = .returned (.agg [.int .i64 ((afterP ps x f).cost : Int), .int .i64 ((afterP ps x f).puts : Int), .bool (afterP ps x f).known].toArray) ∧ At C fr (.blk bm (.cells (mcells fn ps).toArray 99 (0, 0)) :: T) a w' := by
  have hp64 : putN x f < 64 := putN_lt hxo hf
  obtain ⟨q, hq⟩ : ∃ q, ps[putN x f]? = some q := ⟨_, List.getElem?_eq_getElem (by rw [hps.1]; exact hp64)⟩
  have hqd : ps.getD (putN x f) default = q := by rw [List.getD_eq_getElem?_getD, hq]; rfl
  have hqb := hps.2 q (List.mem_of_getElem? hq)
  have hxc := hxo.cost
  have haf : afterP ps x f = ⟨q.cost + x.cost, q.puts + 1, q.known⟩ := by unfold afterP; rw [hqd]
  obtain ⟨P, B, w0, N0, ds⟩ := C
  obtain rfl : P = Tryd.prog := hC
  refine enter_in (N := 28) [(0, .pointer (some ⟨bm, 0, none⟩)), (1, .agg [.int .i64 (x.needs : Int), .int .i64 (x.no : Int), .int .i64 (x.takes : Int), .int .i64 (x.leaves : Int), .int .i64 (x.cost : Int)].toArray), (2, .int .u8 (f : Int))] ha Tryd.func90 rfl Tryd.ntmps90 rfl rfl ?_
  refine cod_seq ?_
  refine cod_region ?_
  refine lst_box rfl rfl ?_
  intro b4
  refine lst_alloc rfl F.ti95 ?_
  intro b6
  refine lst_nil ?_
  refine ex_then ?_
  refine cod_seq ?_
  refine any_begin [] F.follows 10 rfl [false, false, false, false, false, false, false, false, false, false] rfl ?_
  refine any_tk 0 rfl rfl rfl (yld_move rfl) ?_
  refine any_tk 1 rfl rfl rfl (yld_loadN rfl F.agg89 F.ti89) ?_
  refine any_tk 2 rfl rfl rfl (yld_move rfl) ?_
  refine any_tk 4 rfl rfl rfl (yld_nilCheck rfl) ?_
  refine any_tk 5 rfl rfl rfl (yld_field_z rfl F.fi99_1 F.ti97) ?_
  refine any_two 3 8 (by kernel_rfl) rfl rfl rfl rfl ?_ ?_
  · skip
    refine lst_fn0 (vs := [_, _]) rfl rfl F.ent91 (fun a w ha => put_c x f hxo (by omega) w) ?_
    refine lst_nil ?_
    refine any_next sbl ?_
    refine any_tk 6 rfl rfl rfl (yld_index_arr (j := putN x f) rfl rfl Tryd.underlying97 F.ti95 rfl hp64) ?_
    refine any_tk 7 rfl rfl rfl (yld_loadN_at (l := [.int .i64 (q.cost : Int), .int .i64 (q.puts : Int), .bool q.known]) rfl F.agg95 F.ti95 rfl (fun a w ha j u hu => cell_of_blk (ha.mem_blk (InB.mem (b := bm))) (mcells_get fn ps hq hu))) ?_
    refine any_one 8 (by kernel_rfl) rfl rfl ?_
    refine lst_alloc rfl F.ti95 ?_
    intro b7
    refine lst_nil ?_
    refine any_next sbl ?_
    refine any_one 9 (by kernel_rfl) rfl rfl ?_
    refine lst_store rfl rfl F.ti95 rfl ?_
    refine lst_nil ?_
    refine any_next sbl ?_
    refine any_done rfl (by kernel_rfl) ?_
    refine ex_then ?_
    refine cod_seq ?_
    refine cod_region ?_
    refine lst_field_z rfl rfl F.fi95_0 F.ti3 ?_
    refine lst_load rfl rfl F.one3 ?_
    refine lst_field_z rfl rfl F.fi89_0 F.ti24 ?_
    refine lst_field_z rfl rfl F.fi24_4 F.ti3 ?_
    refine lst_load rfl rfl F.one3 ?_
    refine lst_int rfl rfl rfl (fun w => bin_add w (wrap_i64' _ (by omega) (by omega))) ?_
    refine lst_field_z rfl rfl F.fi95_1 F.ti3 ?_
    refine lst_load rfl rfl F.one3 ?_
    refine lst_int rfl rfl rfl (fun w => bin_add w (wrap_i64' _ (by omega) (by omega))) ?_
    refine lst_field_z rfl rfl F.fi95_2 F.ti4 ?_
    refine lst_load rfl rfl F.one4 ?_
    refine lst_struct (vs := [(0, _), (1, _), (2, _)]) (l' := [_, _, _]) rfl rfl F.ti95 F.pl95 (.cons rfl rfl (.cons rfl rfl (.cons rfl rfl (.nil _)))) rfl ?_
    refine lst_store rfl rfl F.ti95 rfl ?_
    refine lst_nil ?_
    refine ex_then ?_
    refine cod_ret ?_
    exact ex_ret rfl (fun a w ha => by exact res_cellN (ha := ha) rfl rfl F.agg95 F.ti95 rfl) (fun _ _ ha' => ⟨by rw [haf]; simp, ha.back (ha'.pck pkk)⟩)
  · skip
    refine lst_alloc rfl F.ti95 ?_
    intro b7
    refine lst_nil ?_
    refine any_next sbl ?_
    refine any_one 3 (by kernel_rfl) rfl rfl ?_
    refine lst_fn0 (vs := [_, _]) rfl rfl F.ent91 (fun a w ha => put_c x f hxo (by omega) w) ?_
    refine lst_nil ?_
    refine any_next sbl ?_
    refine any_tk 6 rfl rfl rfl (yld_index_arr (j := putN x f) rfl rfl Tryd.underlying97 F.ti95 rfl hp64) ?_
    refine any_tk 7 rfl rfl rfl (yld_loadN_at (l := [.int .i64 (q.cost : Int), .int .i64 (q.puts : Int), .bool q.known]) rfl F.agg95 F.ti95 rfl (fun a w ha j u hu => cell_of_blk (ha.mem_blk (InB.mem (b := bm))) (mcells_get fn ps hq hu))) ?_
    refine any_one 9 (by kernel_rfl) rfl rfl ?_
    refine lst_store rfl rfl F.ti95 rfl ?_
    refine lst_nil ?_
    refine any_next sbl ?_
    refine any_done rfl (by kernel_rfl) ?_
    refine ex_then ?_
    refine cod_seq ?_
    refine cod_region ?_
    refine lst_field_z rfl rfl F.fi95_0 F.ti3 ?_
    refine lst_load rfl rfl F.one3 ?_
    refine lst_field_z rfl rfl F.fi89_0 F.ti24 ?_
    refine lst_field_z rfl rfl F.fi24_4 F.ti3 ?_
    refine lst_load rfl rfl F.one3 ?_
    refine lst_int rfl rfl rfl (fun w => bin_add w (wrap_i64' _ (by omega) (by omega))) ?_
    refine lst_field_z rfl rfl F.fi95_1 F.ti3 ?_
    refine lst_load rfl rfl F.one3 ?_
    refine lst_int rfl rfl rfl (fun w => bin_add w (wrap_i64' _ (by omega) (by omega))) ?_
    refine lst_field_z rfl rfl F.fi95_2 F.ti4 ?_
    refine lst_load rfl rfl F.one4 ?_
    refine lst_struct (vs := [(0, _), (1, _), (2, _)]) (l' := [_, _, _]) rfl rfl F.ti95 F.pl95 (.cons rfl rfl (.cons rfl rfl (.cons rfl rfl (.nil _)))) rfl ?_
    refine lst_store rfl rfl F.ti95 rfl ?_
    refine lst_nil ?_
    refine ex_then ?_
    refine cod_ret ?_
    exact ex_ret rfl (fun a w ha => by exact res_cellN (ha := ha) rfl rfl F.agg95 F.ti95 rfl) (fun _ _ ha' => ⟨by rw [haf]; simp, ha.back (ha'.pck pkk)⟩)

theorem prices_c {C : Ctx} {fr : List (Nat × Value)} {T : List Res} {a : Act} {w : World} (hC : C.P = Tryd.prog) {ags : List Ag} {used p cg N : Nat} {aA : Option Addr} (hok : Oks ags) (hu : used < 256) (hp : p < 64) (hN64 : N ≤ 1000) (hN : (roundP ags used (iterP ags used p N) 64).2 = false) (hAg : Res.row 89 5 aA ags.length cg (ags.flatMap Ag.cells) ∈ T) (ha : At C fr (T) a w) : Calls C.P 88 #[.agg [.slice aA ags.length cg, .int .u8 (used : Int)].toArray, .int .u8 (p : Int)] w fun e w' => ∃ j b, j ≤ N ∧ (roundP ags used (iterP ags used p j) 64).2 = false ∧ e = .returned (.pointer (some ⟨b, 0, none⟩)) ∧ At C fr (.blk b (.cells (mcells (.func (.func 116) #[] #[]) (iterP ags used p (j + 1))).toArray 99 (0, 0)) :: T) a w' := by
  obtain ⟨P, B, w0, N0, ds⟩ := C
  obtain rfl : P = Tryd.prog := hC
  refine enter_in (N := 71) [(0, .agg [.slice aA ags.length cg, .int .u8 (used : Int)].toArray), (1, .int .u8 (p : Int))] ha Tryd.func88 rfl Tryd.ntmps88 rfl rfl ?_
  refine cod_seq ?_
  refine cod_region ?_
  refine lst_box rfl rfl ?_
  intro b2
  refine lst_assign rfl rfl ?_
  refine lst_nil ?_
  refine ex_then ?_
  refine cod_scope_jumps 0 (G := Nat × Nat) (fun g => g.1 ≤ N) (fun g => N - g.1) (fun g => [(1, .int .u8 (p : Int)), (2, .pointer (some ⟨b2, 0, none⟩)), (5, .pointer (some ⟨g.2, 0, none⟩))]) (fun g => .blk g.2 (.cells (mcells (.func (.func 116) #[] #[]) (iterP ags used p g.1)).toArray 99 (0, 0)) :: .blk b2 (.cells [.slice aA ags.length cg, .int .u8 (used : Int)].toArray 75 (0, 0)) :: T) rfl ?_ ?_
  · skip
    refine cod_seq ?_
    refine cod_region ?_
    refine lst_build (vs := [(0, _)]) (l := mcells (.func (.func 116) #[] #[]) (initP p 0)) rfl rfl (fun w => Go.run_build w 99 _ _ (by kernel_rfl)) ?_
    refine lst_box (l := mcells (.func (.func 116) #[] #[]) (initP p 0)) (hl := mcells_box _ rfl _) rfl rfl ?_
    intro b13
    refine lst_assign rfl rfl ?_
    refine lst_nil ?_
    refine ex_then ?_
    refine cod_seq ?_
    refine cod_seq ?_
    refine cod_region ?_
    refine lst_move rfl rfl ?_
    refine lst_nil ?_
    refine ex_then ?_
    refine cod_block ?_
    refine cod_loop (G := Nat) (fun k => k ≤ 64) (fun k => 64 - k) (fun k => [(1, .int .u8 (p : Int)), (2, .pointer (some ⟨b2, 0, none⟩)), (5, .pointer (some ⟨b13, 0, none⟩)), (14, .int .i64 (k : Int))]) (fun k => .blk b13 (.cells (mcells (.func (.func 116) #[] #[]) (initP p k)).toArray 99 (0, 0)) :: .blk b2 (.cells [.slice aA ags.length cg, .int .u8 (used : Int)].toArray 75 (0, 0)) :: T) 0 (Nat.zero_le _) sbn sbl ?_
    intro k hk
    (try dsimp only at hk ⊢)
    refine cod_seq ?_
    refine cod_region ?_
    refine lst_int rfl rfl rfl bin_lss ?_
    refine lst_nil ?_
    refine ex_then ?_
    refine cod_seq ?_
    refine cod_cond_dec rfl (fun hc0 => ?_) (fun hc0 => ?_)
    · skip
      have hk64 : k < 64 := by omega
      refine cod_skip ?_
      refine ex_then ?_
      refine cod_seq ?_
      refine cod_block ?_
      refine cod_seq ?_
      refine cod_region ?_
      refine lst_move rfl rfl ?_
      refine lst_assign rfl rfl ?_
      refine lst_nil ?_
      refine ex_then ?_
      refine any_begin [.b b13] F.follows 11 rfl [false, false, false, false, false, false, false, false, false, false, false] rfl ?_
      refine any_tk 0 rfl rfl rfl (yld_move rfl) ?_
      refine any_tk 1 rfl rfl rfl (yld_move rfl) ?_
      refine any_tk 2 rfl rfl rfl (yld_move rfl) ?_
      refine any_tk 3 rfl rfl rfl (yld_convert rfl Tryd.underlying3 Tryd.underlying77 (wrap_u8 _ (by omega))) ?_
      refine any_tk 4 rfl rfl rfl (yld_move rfl) ?_
      refine any_tk 6 rfl rfl rfl (yld_nilCheck rfl) ?_
      refine any_tk 7 rfl rfl rfl (yld_field_z rfl F.fi99_1 F.ti97) ?_
      refine any_one 5 (by kernel_rfl) rfl rfl ?_
      refine lst_fn0 (vs := [_, _]) rfl rfl F.ent81 (fun a w ha => clear_c k p (by omega) (by omega) w) ?_
      refine lst_nil ?_
      refine any_next sbl ?_
      refine any_tk 8 rfl rfl rfl (yld_index_arr (j := _) rfl rfl Tryd.underlying97 F.ti95 rfl (by omega)) ?_
      refine any_tk 9 rfl rfl rfl (yld_field rfl F.fi95_2 F.ti4) ?_
      refine any_one 10 (by kernel_rfl) rfl rfl ?_
      refine lst_store_any rfl rfl F.ti4 (by rw [mcells_len, (Bd.init p k).1]; omega) (show mcells (.func (.func 116) #[] #[]) (initP p (k + 1)) = _ from by rw [← initP_set p hk64]; exact mcells_known (.func (.func 116) #[] #[]) (initP p k) (initP_get p hk64) _) UpB.upd ?_
      refine lst_nil ?_
      refine any_next sbl ?_
      refine any_done rfl (by kernel_rfl) ?_
      refine ex_block_normal ?_
      refine ex_then ?_
      refine cod_region ?_
      refine lst_int rfl rfl rfl (fun w => bin_add w (wrap_i64' _ (by omega) (by omega))) ?_
      refine lst_move rfl rfl ?_
      refine lst_nil ?_
      refine ex_round (k + 1) (by omega) (by (try dsimp only); omega) sbn sbl
    · skip
      refine cod_exit ?_
      refine ex_then_exit ?_
      refine ex_then_exit ?_
      refine ex_block_exit ?_
      refine ex_then ?_
      refine cod_seq ?_
      refine cod_label ?_
      refine ex_then ?_
      refine cod_seq ?_
      refine cod_region ?_
      obtain rfl : k = 64 := by omega
      obtain ⟨j, hj⟩ : ∃ j, j = 0 := ⟨0, rfl⟩
      have hjN : j ≤ N := by omega
      rw [show initP p 64 = iterP ags used p j from by rw [hj]; rfl]
      refine lst_assign rfl rfl ?_
      refine lst_nil ?_
      refine ex_then ?_
      refine cod_seq ?_
      refine cod_seq ?_
      refine cod_region ?_
      refine lst_move rfl rfl ?_
      refine lst_nil ?_
      refine ex_then ?_
      refine cod_block ?_
      refine cod_loop (G := Nat) (fun k => k ≤ 64) (fun k => 64 - k) (fun k => [(1, .int .u8 (p : Int)), (2, .pointer (some ⟨b2, 0, none⟩)), (5, .pointer (some ⟨b13, 0, none⟩)), (7, .bool (roundP ags used (iterP ags used p j) k).2), (28, .int .i64 (k : Int))]) (fun k => .blk b13 (.cells (mcells (.func (.func 116) #[] #[]) (roundP ags used (iterP ags used p j) k).1).toArray 99 (0, 0)) :: .blk b2 (.cells [.slice aA ags.length cg, .int .u8 (used : Int)].toArray 75 (0, 0)) :: T) 0 (Nat.zero_le _) sbn sbl ?_
      intro k hk
      (try dsimp only at hk ⊢)
      refine cod_seq ?_
      refine cod_region ?_
      refine lst_int rfl rfl rfl bin_lss ?_
      refine lst_nil ?_
      refine ex_then ?_
      refine cod_seq ?_
      refine cod_cond_dec rfl (fun hc1 => ?_) (fun hc1 => ?_)
      · skip
        have hk64 : k < 64 := by omega
        refine cod_skip ?_
        refine ex_then ?_
        refine cod_seq ?_
        refine cod_block ?_
        refine cod_seq ?_
        refine cod_region ?_
        refine lst_move rfl rfl ?_
        refine lst_assign rfl rfl ?_
        refine lst_nil ?_
        refine ex_then ?_
        refine cod_seq ?_
        refine cod_region ?_
        refine lst_loadN rfl rfl F.agg75 F.ti75 ?_
        refine lst_move rfl rfl ?_
        refine lst_convert rfl rfl Tryd.underlying3 Tryd.underlying77 (wrap_u8 _ (by omega)) ?_
        refine lst_fn (X := Option Addr × Nat) (vs := [_, _]) (p := fun _ => True) (val := fun x => .slice x.1 (canTo ags used k ags.length).length x.2) (rs := fun x => [.row 3 1 x.1 (canTo ags used k ags.length).length x.2 (ints (canTo ags used k ags.length))]) rfl rfl F.ent89 (fun a w ha => (can_c aA cg ags used k hok hu (by omega) w (row_reads ha (cells := Ag.cells) (e := 89) (c := cg) (n := ags.length) (fun _ => rfl) (by simp [hAg]) rfl)).mono (fun e w' h => by obtain ⟨A', c', h1, h2⟩ := h; exact ⟨(A', c'), trivial, h1, h2⟩)) ?_
        rintro ⟨cA, cc⟩ -
        dsimp only [List.cons_append, List.nil_append]
        refine lst_len rfl rfl Tryd.underlying25 ?_
        refine lst_move rfl rfl ?_
        refine lst_nil ?_
        refine ex_then ?_
        refine cod_block ?_
        refine cod_loop (G := Nat) (fun t => t ≤ (canTo ags used k ags.length).length) (fun t => (canTo ags used k ags.length).length - t) (fun t => [(1, .int .u8 (p : Int)), (2, .pointer (some ⟨b2, 0, none⟩)), (5, .pointer (some ⟨b13, 0, none⟩)), (7, .bool (relaxF ags k (roundP ags used (iterP ags used p j) k) ((canTo ags used k ags.length).take t)).2), (28, .int .i64 (k : Int)), (8, .int .i64 (k : Int)), (34, .slice cA (canTo ags used k ags.length).length cc), (35, .int .i64 ((canTo ags used k ags.length).length : Int)), (36, .int .i64 (t : Int))]) (fun t => .row 3 1 cA (canTo ags used k ags.length).length cc (ints (canTo ags used k ags.length)) :: .blk b13 (.cells (mcells (.func (.func 116) #[] #[]) (relaxF ags k (roundP ags used (iterP ags used p j) k) ((canTo ags used k ags.length).take t)).1).toArray 99 (0, 0)) :: .blk b2 (.cells [.slice aA ags.length cg, .int .u8 (used : Int)].toArray 75 (0, 0)) :: T) 0 (Nat.zero_le _) sbn sbl ?_
        intro t ht
        (try dsimp only at hk ⊢)
        refine cod_seq ?_
        refine cod_region ?_
        refine lst_int rfl rfl rfl bin_lss ?_
        refine lst_nil ?_
        refine ex_then ?_
        refine cod_seq ?_
        refine cod_cond_dec rfl (fun hc2 => ?_) (fun hc2 => ?_)
        · skip
          have ht' : t < (canTo ags used k ags.length).length := by omega
          have hcl := canTo_len ags used k ags.length
          have hol := hok.1
          obtain ⟨i, hci⟩ : ∃ i, (canTo ags used k ags.length)[t]? = some i := ⟨_, List.getElem?_eq_getElem ht'⟩
          obtain ⟨hi', _, _⟩ := canTo_mem (List.mem_of_getElem? hci)
          obtain ⟨gA, hgA⟩ := row_some (ha.own _ hAg) (show 0 < ags.length by omega)
          subst hgA
          obtain ⟨x, hx⟩ : ∃ x, ags[i]? = some x := ⟨_, List.getElem?_eq_getElem hi'⟩
          have hxo : x.ok := hok.2 x (List.mem_of_getElem? hx)
          have hxd : ags.getD i default = x := by rw [List.getD_eq_getElem?_getD, hx]; rfl
          have hBd := Bd.at (used := used) (p := p) hok j k t (by omega)
          have hsn := relaxF_snoc (ags := ags) (f := k) (s := (roundP ags used (iterP ags used p j) k)) hci
          obtain ⟨ps, ch, hpc⟩ : ∃ ps ch, (relaxF ags k (roundP ags used (iterP ags used p j) k) ((canTo ags used k ags.length).take t)) = (ps, ch) := ⟨_, _, rfl⟩
          rw [hpc] at hBd hsn ⊢
          have hps : ps[k]? = some (ps.getD k default) := getD_some (by rw [hBd.1]; exact hk64)
          have hkl : k < ps.length := by rw [hBd.1]; exact hk64
          dsimp only
          refine cod_skip ?_
          refine ex_then ?_
          refine cod_seq ?_
          refine cod_block ?_
          refine cod_seq ?_
          refine cod_region ?_
          refine lst_index_row (j := t) rfl rfl rfl Tryd.underlying25 F.ti3 rfl ht' rfl rfl ?_
          intro gC hgC
          refine lst_load_row (v := .int .i64 (i : Int)) rfl rfl F.one3 hgC (ints_get hci) ?_
          refine lst_assign rfl rfl ?_
          refine lst_nil ?_
          refine ex_then ?_
          refine cod_seq ?_
          refine cod_region ?_
          refine lst_move rfl rfl ?_
          refine lst_field_z rfl rfl F.fi75_0 F.ti72 ?_
          refine lst_load rfl rfl F.one72 ?_
          refine lst_move rfl rfl ?_
          refine lst_index (j := i) rfl rfl rfl Tryd.underlying72 F.ti89 rfl hi' ?_
          refine lst_loadN_at (l := [.int .i64 (x.needs : Int), .int .i64 (x.no : Int), .int .i64 (x.takes : Int), .int .i64 (x.leaves : Int), .int .i64 (x.cost : Int)]) rfl rfl F.agg89 F.ti89 rfl (fun a w ha j u hu => row_at ha (e := 89) (n := ags.length) (c := cg) (cells := Ag.cells) (by simp [hAg]) (fun _ => rfl) hx hu) ?_
          refine lst_move rfl rfl ?_
          refine lst_convert rfl rfl Tryd.underlying3 Tryd.underlying77 (wrap_u8 _ (by omega)) ?_
          refine lst_call (X := Unit) (first := []) (cap := []) (vs := [_, _, _]) (p := fun _ => True) (val := fun _ => .agg [.int .i64 ((afterP ps x k).cost : Int), .int .i64 ((afterP ps x k).puts : Int), .bool (afterP ps x k).known].toArray) (rs := fun _ => .blk b13 (.cells (mcells (.func (.func 116) #[] #[]) ps).toArray 99 (0, 0)) :: .row 3 1 cA (canTo ags used k ags.length).length cc (ints (canTo ags used k ags.length)) :: .blk b2 (.cells [.slice (some ⟨gA, 0, none⟩) ags.length cg, .int .u8 (used : Int)].toArray 75 (0, 0)) :: T) rfl rfl rfl F.ent90 (fun a w ha => (after_c (bm := b13) (x := x) (f := k) (T := .row 3 1 cA (canTo ags used k ags.length).length cc (ints (canTo ags used k ags.length)) :: .blk b2 (.cells [.slice (some ⟨gA, 0, none⟩) ags.length cg, .int .u8 (used : Int)].toArray 75 (0, 0)) :: T) rfl hxo hk64 hBd (by omega) (ha.pck pkk)).mono (fun e w' h => ⟨(), trivial, h.1, h.2⟩)) ?_
          rintro ⟨⟩ -
          dsimp only
          refine lst_alloc rfl F.ti95 ?_
          intro b11
          refine lst_store rfl rfl F.ti95 rfl ?_
          refine lst_nil ?_
          refine ex_then ?_
          refine cod_seq ?_
          refine any_begin [] F.follows 12 rfl [false, false, false, false, false, false, false, false, false, false, false, false] rfl ?_
          refine any_tk 0 rfl rfl rfl (yld_move rfl) ?_
          refine any_tk 1 rfl rfl rfl (yld_nilCheck rfl) ?_
          refine any_tk 2 rfl rfl rfl (yld_field_z rfl F.fi99_0 F.ti96) ?_
          refine any_tk 3 rfl rfl rfl (yld_load_at rfl F.one96 (fun a w ha => cell_of_blk (ha.mem_blk (InB.mem (b := b13))) rfl)) ?_
          refine any_tk 4 rfl rfl rfl (yld_loadN rfl F.agg95 F.ti95) ?_
          refine any_tk 5 rfl rfl rfl (yld_move rfl) ?_
          refine any_tk 6 rfl rfl rfl (yld_move rfl) ?_
          refine any_tk 7 rfl rfl rfl (yld_nilCheck rfl) ?_
          refine any_tk 8 rfl rfl rfl (yld_field_z rfl F.fi99_1 F.ti97) ?_
          refine any_tk 9 rfl rfl rfl (yld_index_arr (j := k) rfl rfl Tryd.underlying97 F.ti95 rfl hk64) ?_
          refine any_tk 10 rfl rfl rfl (yld_loadN_at (l := [.int .i64 ((ps.getD k default).cost : Int), .int .i64 ((ps.getD k default).puts : Int), .bool (ps.getD k default).known]) rfl F.agg95 F.ti95 rfl (fun a w ha j u hu => cell_of_blk (ha.mem_blk (InB.mem (b := b13))) (mcells_get _ ps hps hu))) ?_
          refine any_one 11 (by kernel_rfl) rfl rfl ?_
          refine lst_call (X := Unit) (first := []) (cap := []) (vs := [_, _]) (p := fun _ => True) (val := fun _ => .bool (lessP (afterP ps x k) (ps.getD k default))) (rs := fun _ => .blk b11 (.cells [.int .i64 ((afterP ps x k).cost : Int), .int .i64 ((afterP ps x k).puts : Int), .bool (afterP ps x k).known].toArray 95 (0, 0)) :: .blk b13 (.cells (mcells (.func (.func 116) #[] #[]) ps).toArray 99 (0, 0)) :: .row 3 1 cA (canTo ags used k ags.length).length cc (ints (canTo ags used k ags.length)) :: .blk b2 (.cells [.slice (some ⟨gA, 0, none⟩) ags.length cg, .int .u8 (used : Int)].toArray 75 (0, 0)) :: T) rfl rfl rfl F.ent116 (fun a w ha => (less_c (afterP ps x k) (ps.getD k default) w).mono (fun e w' h => by exact ⟨(), trivial, h.1, ha.more h.2⟩)) ?_
          rintro ⟨⟩ -
          dsimp only
          refine lst_nil ?_
          refine any_next sbl ?_
          refine any_done rfl (by kernel_rfl) ?_
          refine ex_then ?_
          refine cod_cond_bool rfl (fun hc3 => ?_) (fun hc3 => ?_)
          · skip
            have hr : relax ags k (ps, ch) i = (ps.set k (afterP ps x k), true) := by unfold relax; rw [hxd]; exact if_pos hc3
            rw [hr] at hsn
            refine any_begin [.b b13] F.follows 8 rfl [false, false, false, false, false, false, false, false] rfl ?_
            refine any_tk 0 rfl rfl rfl (yld_move rfl) ?_
            refine any_tk 1 rfl rfl rfl (yld_move rfl) ?_
            refine any_tk 2 rfl rfl rfl (yld_loadN rfl F.agg95 F.ti95) ?_
            refine any_tk 3 rfl rfl rfl (yld_nilCheck rfl) ?_
            refine any_tk 4 rfl rfl rfl (yld_field_z rfl F.fi99_1 F.ti97) ?_
            refine any_tk 5 rfl rfl rfl (yld_index_arr (j := k) rfl rfl Tryd.underlying97 F.ti95 rfl hk64) ?_
            refine any_one 6 (by kernel_rfl) rfl rfl ?_
            refine lst_store (hs := mcells_splice (.func (.func 116) #[] #[]) ps hkl (afterP ps x k)) rfl rfl F.ti95 rfl ?_
            refine lst_nil ?_
            refine any_next sbl ?_
            refine any_tk 7 rfl rfl rfl (yld_assign rfl) ?_
            refine any_done rfl (by kernel_rfl) ?_
            refine ex_block_normal ?_
            refine ex_then ?_
            refine cod_region ?_
            refine lst_int rfl rfl rfl (fun w => bin_add w (wrap_i64' _ (by omega) (by omega))) ?_
            refine lst_move rfl rfl ?_
            refine lst_nil ?_
            refine ex_round' (t + 1) (by omega) (by (try dsimp only); omega) (by (try dsimp only); rw [hsn]; repeat (first | exact Sub.nil _ | refine Sub.cons rfl ?_)) (by (try dsimp only); rw [hsn]; repeat (first | exact Pck.nil _ | exact Pck.refl _ | (apply Pck.cons; focus ((repeat (first | exact Rem.here _ | apply Rem.there)); done)) | refine Pck.skip _ ?_))
          · skip
            have hr : relax ags k (ps, ch) i = (ps, ch) := by unfold relax; rw [hxd]; exact if_neg (by rw [hc3]; exact Bool.false_ne_true)
            rw [hr] at hsn
            refine cod_skip ?_
            refine ex_block_normal ?_
            refine ex_then ?_
            refine cod_region ?_
            refine lst_int rfl rfl rfl (fun w => bin_add w (wrap_i64' _ (by omega) (by omega))) ?_
            refine lst_move rfl rfl ?_
            refine lst_nil ?_
            refine ex_round' (t + 1) (by omega) (by (try dsimp only); omega) (by (try dsimp only); rw [hsn]; repeat (first | exact Sub.nil _ | refine Sub.cons rfl ?_)) (by (try dsimp only); rw [hsn]; repeat (first | exact Pck.nil _ | exact Pck.refl _ | (apply Pck.cons; focus ((repeat (first | exact Rem.here _ | apply Rem.there)); done)) | refine Pck.skip _ ?_))
        · skip
          obtain rfl : t = (canTo ags used k ags.length).length := by omega
          rw [List.take_length]
          refine cod_exit ?_
          refine ex_then_exit ?_
          refine ex_then_exit ?_
          refine ex_block_exit ?_
          refine ex_block_normal ?_
          refine ex_then ?_
          refine cod_region ?_
          refine lst_int rfl rfl rfl (fun w => bin_add w (wrap_i64' _ (by omega) (by omega))) ?_
          refine lst_move rfl rfl ?_
          refine lst_nil ?_
          refine ex_round (k + 1) (by omega) (by (try dsimp only); omega) sbn sbl
      · skip
        obtain rfl : k = 64 := by omega
        refine cod_exit ?_
        refine ex_then_exit ?_
        refine ex_then_exit ?_
        refine ex_block_exit ?_
        refine ex_then ?_
        refine cod_seq ?_
        refine cod_seq ?_
        refine cod_region ?_
        refine lst_move rfl rfl ?_
        refine lst_nil ?_
        refine ex_then ?_
        refine cod_cond_bool rfl (fun hc4 => ?_) (fun hc4 => ?_)
        · skip
          have hjN' : j < N := by
            rcases Nat.lt_or_ge j N with h | h
            · exact h
            · obtain rfl : j = N := by omega
              rw [hN] at hc4; cases hc4
          refine cod_goto ?_
          refine ex_then_goto ?_
          exact ex_jump_goto (j + 1, b13) (by (try dsimp only); omega) sbn pkk
        · skip
          refine cod_skip ?_
          refine ex_then ?_
          refine cod_seq ?_
          refine cod_region ?_
          refine lst_move rfl rfl ?_
          refine lst_assign rfl rfl ?_
          refine lst_nil ?_
          refine ex_then ?_
          refine cod_ret ?_
          refine ex_jump_ret ?_
          exact ex_ret rfl (fun a w ha => res_one rfl rfl ha) (fun _ _ ha' => ⟨j, b13, hjN, hc4, rfl, ha.back (ha'.pck pkk)⟩)
  · skip
    rintro ⟨j, b13⟩ hjN
    dsimp only at hjN ⊢
    refine cod_seq ?_
    refine cod_skip ?_
    refine ex_then ?_
    refine cod_seq ?_
    refine cod_region ?_
    refine lst_assign rfl rfl ?_
    refine lst_nil ?_
    refine ex_then ?_
    refine cod_seq ?_
    refine cod_seq ?_
    refine cod_region ?_
    refine lst_move rfl rfl ?_
    refine lst_nil ?_
    refine ex_then ?_
    refine cod_block ?_
    refine cod_loop (G := Nat) (fun k => k ≤ 64) (fun k => 64 - k) (fun k => [(1, .int .u8 (p : Int)), (2, .pointer (some ⟨b2, 0, none⟩)), (5, .pointer (some ⟨b13, 0, none⟩)), (7, .bool (roundP ags used (iterP ags used p j) k).2), (28, .int .i64 (k : Int))]) (fun k => .blk b13 (.cells (mcells (.func (.func 116) #[] #[]) (roundP ags used (iterP ags used p j) k).1).toArray 99 (0, 0)) :: .blk b2 (.cells [.slice aA ags.length cg, .int .u8 (used : Int)].toArray 75 (0, 0)) :: T) 0 (Nat.zero_le _) sbn sbl ?_
    intro k hk
    (try dsimp only at hk ⊢)
    refine cod_seq ?_
    refine cod_region ?_
    refine lst_int rfl rfl rfl bin_lss ?_
    refine lst_nil ?_
    refine ex_then ?_
    refine cod_seq ?_
    refine cod_cond_dec rfl (fun hc1 => ?_) (fun hc1 => ?_)
    · skip
      have hk64 : k < 64 := by omega
      refine cod_skip ?_
      refine ex_then ?_
      refine cod_seq ?_
      refine cod_block ?_
      refine cod_seq ?_
      refine cod_region ?_
      refine lst_move rfl rfl ?_
      refine lst_assign rfl rfl ?_
      refine lst_nil ?_
      refine ex_then ?_
      refine cod_seq ?_
      refine cod_region ?_
      refine lst_loadN rfl rfl F.agg75 F.ti75 ?_
      refine lst_move rfl rfl ?_
      refine lst_convert rfl rfl Tryd.underlying3 Tryd.underlying77 (wrap_u8 _ (by omega)) ?_
      refine lst_fn (X := Option Addr × Nat) (vs := [_, _]) (p := fun _ => True) (val := fun x => .slice x.1 (canTo ags used k ags.length).length x.2) (rs := fun x => [.row 3 1 x.1 (canTo ags used k ags.length).length x.2 (ints (canTo ags used k ags.length))]) rfl rfl F.ent89 (fun a w ha => (can_c aA cg ags used k hok hu (by omega) w (row_reads ha (cells := Ag.cells) (e := 89) (c := cg) (n := ags.length) (fun _ => rfl) (by simp [hAg]) rfl)).mono (fun e w' h => by obtain ⟨A', c', h1, h2⟩ := h; exact ⟨(A', c'), trivial, h1, h2⟩)) ?_
      rintro ⟨cA, cc⟩ -
      dsimp only [List.cons_append, List.nil_append]
      refine lst_len rfl rfl Tryd.underlying25 ?_
      refine lst_move rfl rfl ?_
      refine lst_nil ?_
      refine ex_then ?_
      refine cod_block ?_
      refine cod_loop (G := Nat) (fun t => t ≤ (canTo ags used k ags.length).length) (fun t => (canTo ags used k ags.length).length - t) (fun t => [(1, .int .u8 (p : Int)), (2, .pointer (some ⟨b2, 0, none⟩)), (5, .pointer (some ⟨b13, 0, none⟩)), (7, .bool (relaxF ags k (roundP ags used (iterP ags used p j) k) ((canTo ags used k ags.length).take t)).2), (28, .int .i64 (k : Int)), (8, .int .i64 (k : Int)), (34, .slice cA (canTo ags used k ags.length).length cc), (35, .int .i64 ((canTo ags used k ags.length).length : Int)), (36, .int .i64 (t : Int))]) (fun t => .row 3 1 cA (canTo ags used k ags.length).length cc (ints (canTo ags used k ags.length)) :: .blk b13 (.cells (mcells (.func (.func 116) #[] #[]) (relaxF ags k (roundP ags used (iterP ags used p j) k) ((canTo ags used k ags.length).take t)).1).toArray 99 (0, 0)) :: .blk b2 (.cells [.slice aA ags.length cg, .int .u8 (used : Int)].toArray 75 (0, 0)) :: T) 0 (Nat.zero_le _) sbn sbl ?_
      intro t ht
      (try dsimp only at hk ⊢)
      refine cod_seq ?_
      refine cod_region ?_
      refine lst_int rfl rfl rfl bin_lss ?_
      refine lst_nil ?_
      refine ex_then ?_
      refine cod_seq ?_
      refine cod_cond_dec rfl (fun hc2 => ?_) (fun hc2 => ?_)
      · skip
        have ht' : t < (canTo ags used k ags.length).length := by omega
        have hcl := canTo_len ags used k ags.length
        have hol := hok.1
        obtain ⟨i, hci⟩ : ∃ i, (canTo ags used k ags.length)[t]? = some i := ⟨_, List.getElem?_eq_getElem ht'⟩
        obtain ⟨hi', _, _⟩ := canTo_mem (List.mem_of_getElem? hci)
        obtain ⟨gA, hgA⟩ := row_some (ha.own _ hAg) (show 0 < ags.length by omega)
        subst hgA
        obtain ⟨x, hx⟩ : ∃ x, ags[i]? = some x := ⟨_, List.getElem?_eq_getElem hi'⟩
        have hxo : x.ok := hok.2 x (List.mem_of_getElem? hx)
        have hxd : ags.getD i default = x := by rw [List.getD_eq_getElem?_getD, hx]; rfl
        have hBd := Bd.at (used := used) (p := p) hok j k t (by omega)
        have hsn := relaxF_snoc (ags := ags) (f := k) (s := (roundP ags used (iterP ags used p j) k)) hci
        obtain ⟨ps, ch, hpc⟩ : ∃ ps ch, (relaxF ags k (roundP ags used (iterP ags used p j) k) ((canTo ags used k ags.length).take t)) = (ps, ch) := ⟨_, _, rfl⟩
        rw [hpc] at hBd hsn ⊢
        have hps : ps[k]? = some (ps.getD k default) := getD_some (by rw [hBd.1]; exact hk64)
        have hkl : k < ps.length := by rw [hBd.1]; exact hk64
        dsimp only
        refine cod_skip ?_
        refine ex_then ?_
        refine cod_seq ?_
        refine cod_block ?_
        refine cod_seq ?_
        refine cod_region ?_
        refine lst_index_row (j := t) rfl rfl rfl Tryd.underlying25 F.ti3 rfl ht' rfl rfl ?_
        intro gC hgC
        refine lst_load_row (v := .int .i64 (i : Int)) rfl rfl F.one3 hgC (ints_get hci) ?_
        refine lst_assign rfl rfl ?_
        refine lst_nil ?_
        refine ex_then ?_
        refine cod_seq ?_
        refine cod_region ?_
        refine lst_move rfl rfl ?_
        refine lst_field_z rfl rfl F.fi75_0 F.ti72 ?_
        refine lst_load rfl rfl F.one72 ?_
        refine lst_move rfl rfl ?_
        refine lst_index (j := i) rfl rfl rfl Tryd.underlying72 F.ti89 rfl hi' ?_
        refine lst_loadN_at (l := [.int .i64 (x.needs : Int), .int .i64 (x.no : Int), .int .i64 (x.takes : Int), .int .i64 (x.leaves : Int), .int .i64 (x.cost : Int)]) rfl rfl F.agg89 F.ti89 rfl (fun a w ha j u hu => row_at ha (e := 89) (n := ags.length) (c := cg) (cells := Ag.cells) (by simp [hAg]) (fun _ => rfl) hx hu) ?_
        refine lst_move rfl rfl ?_
        refine lst_convert rfl rfl Tryd.underlying3 Tryd.underlying77 (wrap_u8 _ (by omega)) ?_
        refine lst_call (X := Unit) (first := []) (cap := []) (vs := [_, _, _]) (p := fun _ => True) (val := fun _ => .agg [.int .i64 ((afterP ps x k).cost : Int), .int .i64 ((afterP ps x k).puts : Int), .bool (afterP ps x k).known].toArray) (rs := fun _ => .blk b13 (.cells (mcells (.func (.func 116) #[] #[]) ps).toArray 99 (0, 0)) :: .row 3 1 cA (canTo ags used k ags.length).length cc (ints (canTo ags used k ags.length)) :: .blk b2 (.cells [.slice (some ⟨gA, 0, none⟩) ags.length cg, .int .u8 (used : Int)].toArray 75 (0, 0)) :: T) rfl rfl rfl F.ent90 (fun a w ha => (after_c (bm := b13) (x := x) (f := k) (T := .row 3 1 cA (canTo ags used k ags.length).length cc (ints (canTo ags used k ags.length)) :: .blk b2 (.cells [.slice (some ⟨gA, 0, none⟩) ags.length cg, .int .u8 (used : Int)].toArray 75 (0, 0)) :: T) rfl hxo hk64 hBd (by omega) (ha.pck pkk)).mono (fun e w' h => ⟨(), trivial, h.1, h.2⟩)) ?_
        rintro ⟨⟩ -
        dsimp only
        refine lst_alloc rfl F.ti95 ?_
        intro b11
        refine lst_store rfl rfl F.ti95 rfl ?_
        refine lst_nil ?_
        refine ex_then ?_
        refine cod_seq ?_
        refine any_begin [] F.follows 12 rfl [false, false, false, false, false, false, false, false, false, false, false, false] rfl ?_
        refine any_tk 0 rfl rfl rfl (yld_move rfl) ?_
        refine any_tk 1 rfl rfl rfl (yld_nilCheck rfl) ?_
        refine any_tk 2 rfl rfl rfl (yld_field_z rfl F.fi99_0 F.ti96) ?_
        refine any_tk 3 rfl rfl rfl (yld_load_at rfl F.one96 (fun a w ha => cell_of_blk (ha.mem_blk (InB.mem (b := b13))) rfl)) ?_
        refine any_tk 4 rfl rfl rfl (yld_loadN rfl F.agg95 F.ti95) ?_
        refine any_tk 5 rfl rfl rfl (yld_move rfl) ?_
        refine any_tk 6 rfl rfl rfl (yld_move rfl) ?_
        refine any_tk 7 rfl rfl rfl (yld_nilCheck rfl) ?_
        refine any_tk 8 rfl rfl rfl (yld_field_z rfl F.fi99_1 F.ti97) ?_
        refine any_tk 9 rfl rfl rfl (yld_index_arr (j := k) rfl rfl Tryd.underlying97 F.ti95 rfl hk64) ?_
        refine any_tk 10 rfl rfl rfl (yld_loadN_at (l := [.int .i64 ((ps.getD k default).cost : Int), .int .i64 ((ps.getD k default).puts : Int), .bool (ps.getD k default).known]) rfl F.agg95 F.ti95 rfl (fun a w ha j u hu => cell_of_blk (ha.mem_blk (InB.mem (b := b13))) (mcells_get _ ps hps hu))) ?_
        refine any_one 11 (by kernel_rfl) rfl rfl ?_
        refine lst_call (X := Unit) (first := []) (cap := []) (vs := [_, _]) (p := fun _ => True) (val := fun _ => .bool (lessP (afterP ps x k) (ps.getD k default))) (rs := fun _ => .blk b11 (.cells [.int .i64 ((afterP ps x k).cost : Int), .int .i64 ((afterP ps x k).puts : Int), .bool (afterP ps x k).known].toArray 95 (0, 0)) :: .blk b13 (.cells (mcells (.func (.func 116) #[] #[]) ps).toArray 99 (0, 0)) :: .row 3 1 cA (canTo ags used k ags.length).length cc (ints (canTo ags used k ags.length)) :: .blk b2 (.cells [.slice (some ⟨gA, 0, none⟩) ags.length cg, .int .u8 (used : Int)].toArray 75 (0, 0)) :: T) rfl rfl rfl F.ent116 (fun a w ha => (less_c (afterP ps x k) (ps.getD k default) w).mono (fun e w' h => by exact ⟨(), trivial, h.1, ha.more h.2⟩)) ?_
        rintro ⟨⟩ -
        dsimp only
        refine lst_nil ?_
        refine any_next sbl ?_
        refine any_done rfl (by kernel_rfl) ?_
        refine ex_then ?_
        refine cod_cond_bool rfl (fun hc3 => ?_) (fun hc3 => ?_)
        · skip
          have hr : relax ags k (ps, ch) i = (ps.set k (afterP ps x k), true) := by unfold relax; rw [hxd]; exact if_pos hc3
          rw [hr] at hsn
          refine any_begin [.b b13] F.follows 8 rfl [false, false, false, false, false, false, false, false] rfl ?_
          refine any_tk 0 rfl rfl rfl (yld_move rfl) ?_
          refine any_tk 1 rfl rfl rfl (yld_move rfl) ?_
          refine any_tk 2 rfl rfl rfl (yld_loadN rfl F.agg95 F.ti95) ?_
          refine any_tk 3 rfl rfl rfl (yld_nilCheck rfl) ?_
          refine any_tk 4 rfl rfl rfl (yld_field_z rfl F.fi99_1 F.ti97) ?_
          refine any_tk 5 rfl rfl rfl (yld_index_arr (j := k) rfl rfl Tryd.underlying97 F.ti95 rfl hk64) ?_
          refine any_one 6 (by kernel_rfl) rfl rfl ?_
          refine lst_store (hs := mcells_splice (.func (.func 116) #[] #[]) ps hkl (afterP ps x k)) rfl rfl F.ti95 rfl ?_
          refine lst_nil ?_
          refine any_next sbl ?_
          refine any_tk 7 rfl rfl rfl (yld_assign rfl) ?_
          refine any_done rfl (by kernel_rfl) ?_
          refine ex_block_normal ?_
          refine ex_then ?_
          refine cod_region ?_
          refine lst_int rfl rfl rfl (fun w => bin_add w (wrap_i64' _ (by omega) (by omega))) ?_
          refine lst_move rfl rfl ?_
          refine lst_nil ?_
          refine ex_round' (t + 1) (by omega) (by (try dsimp only); omega) (by (try dsimp only); rw [hsn]; repeat (first | exact Sub.nil _ | refine Sub.cons rfl ?_)) (by (try dsimp only); rw [hsn]; repeat (first | exact Pck.nil _ | exact Pck.refl _ | (apply Pck.cons; focus ((repeat (first | exact Rem.here _ | apply Rem.there)); done)) | refine Pck.skip _ ?_))
        · skip
          have hr : relax ags k (ps, ch) i = (ps, ch) := by unfold relax; rw [hxd]; exact if_neg (by rw [hc3]; exact Bool.false_ne_true)
          rw [hr] at hsn
          refine cod_skip ?_
          refine ex_block_normal ?_
          refine ex_then ?_
          refine cod_region ?_
          refine lst_int rfl rfl rfl (fun w => bin_add w (wrap_i64' _ (by omega) (by omega))) ?_
          refine lst_move rfl rfl ?_
          refine lst_nil ?_
          refine ex_round' (t + 1) (by omega) (by (try dsimp only); omega) (by (try dsimp only); rw [hsn]; repeat (first | exact Sub.nil _ | refine Sub.cons rfl ?_)) (by (try dsimp only); rw [hsn]; repeat (first | exact Pck.nil _ | exact Pck.refl _ | (apply Pck.cons; focus ((repeat (first | exact Rem.here _ | apply Rem.there)); done)) | refine Pck.skip _ ?_))
      · skip
        obtain rfl : t = (canTo ags used k ags.length).length := by omega
        rw [List.take_length]
        refine cod_exit ?_
        refine ex_then_exit ?_
        refine ex_then_exit ?_
        refine ex_block_exit ?_
        refine ex_block_normal ?_
        refine ex_then ?_
        refine cod_region ?_
        refine lst_int rfl rfl rfl (fun w => bin_add w (wrap_i64' _ (by omega) (by omega))) ?_
        refine lst_move rfl rfl ?_
        refine lst_nil ?_
        refine ex_round (k + 1) (by omega) (by (try dsimp only); omega) sbn sbl
    · skip
      obtain rfl : k = 64 := by omega
      refine cod_exit ?_
      refine ex_then_exit ?_
      refine ex_then_exit ?_
      refine ex_block_exit ?_
      refine ex_then ?_
      refine cod_seq ?_
      refine cod_seq ?_
      refine cod_region ?_
      refine lst_move rfl rfl ?_
      refine lst_nil ?_
      refine ex_then ?_
      refine cod_cond_bool rfl (fun hc4 => ?_) (fun hc4 => ?_)
      · skip
        have hjN' : j < N := by
          rcases Nat.lt_or_ge j N with h | h
          · exact h
          · obtain rfl : j = N := by omega
            rw [hN] at hc4; cases hc4
        refine cod_goto ?_
        refine ex_then_goto ?_
        exact ex_jump_again (j + 1, b13) (by (try dsimp only); omega) (by (try dsimp only); omega) sbn pkk
      · skip
        refine cod_skip ?_
        refine ex_then ?_
        refine cod_seq ?_
        refine cod_region ?_
        refine lst_move rfl rfl ?_
        refine lst_assign rfl rfl ?_
        refine lst_nil ?_
        refine ex_then ?_
        refine cod_ret ?_
        refine ex_jump_ret ?_
        exact ex_ret rfl (fun a w ha => res_one rfl rfl ha) (fun _ _ ha' => ⟨j, b13, hjN, hc4, rfl, ha.back (ha'.pck pkk)⟩)

end Go.Proofs.YtofkhehcnfiopaaDoor.N
namespace Go.Proofs.YtofkhehcnfiopaaDoor.N
open Go Go.RowKit Go.Proofs
set_option linter.unusedSectionVars false
variable [I : Sys]
/-- What is known was set for some agent's sake, and it is no cheaper now by that agent. -/
def Held (ags : List Ag) (used : Nat) (ps : List Pr) : Prop := ps.length = 64 ∧ ∀ f, f < 64 → (ps.getD f default).known = true → 0 < (ps.getD f default).puts →
  ∃ i ∈ canTo ags used f ags.length, (afterP ps (ags.getD i default) f).known = true ∧ lessP (ps.getD f default) (afterP ps (ags.getD i default) f) = false
theorem getD_set {ps : List Pr} {k j : Nat} {p : Pr} (hk : k < ps.length) : (ps.set k p).getD j default = if k = j then p else ps.getD j default := by
  rw [List.getD_eq_getElem?_getD, List.getD_eq_getElem?_getD, List.getElem?_set]
  by_cases e : k = j
  · subst e; simp [hk]
  · simp [e]
theorem lessP_iff {a b : Pr} (h : lessP a b = true) : a.known = true ∧ (b.known = false ∨ a.cost < b.cost ∨ (a.cost = b.cost ∧ a.puts < b.puts)) := by
  unfold lessP at h
  simp at h
  refine ⟨h.1, ?_⟩
  rcases h.2 with (h1 | h1) | h1
  · exact .inl h1
  · exact .inr (.inl h1)
  · exact .inr (.inr h1)
theorem lessP_not {a b : Pr} (ha : a.known = true) (hb : b.known = true) (h : lessP a b = false) : b.cost < a.cost ∨ (a.cost = b.cost ∧ b.puts ≤ a.puts) := by
  unfold lessP at h
  rw [ha, hb] at h
  simp at h
  omega
theorem lessP_of {a b : Pr} (ha : a.known = true) (hb : b.known = true) (h : b.cost < a.cost ∨ (a.cost = b.cost ∧ b.puts ≤ a.puts)) : lessP a b = false := by
  unfold lessP
  rw [ha, hb]
  simp
  omega
theorem Held.relax {ags : List Ag} {used f i : Nat} {s : List Pr × Bool} (h : Held ags used s.1) (hf : f < 64) (hi : i ∈ canTo ags used f ags.length) (hc : ∀ j ∈ canTo ags used f ags.length, 1 ≤ (ags.getD j default).cost) : Held ags used (Go.Proofs.YtofkhehcnfiopaaDoor.N.relax ags f s i).1 := by
  unfold Go.Proofs.YtofkhehcnfiopaaDoor.N.relax
  split
  · rename_i hl
    obtain ⟨hl1, hl2⟩ := lessP_iff hl
    have hfl : f < s.1.length := by rw [h.1]; exact hf
    have hne : putN (ags.getD i default) f ≠ f := by
      intro e
      unfold afterP at hl1 hl2
      dsimp only at hl1 hl2
      rw [e] at hl1 hl2
      have := hc i hi
      rcases hl2 with h2 | h2 | h2
      · rw [hl1] at h2; cases h2
      · omega
      · omega
    refine ⟨by dsimp only; rw [List.length_set]; exact h.1, fun g hg hk hp => ?_⟩
    dsimp only at hk hp ⊢
    rw [getD_set hfl] at hk hp ⊢
    by_cases e : f = g
    · subst e
      refine ⟨i, hi, ?_⟩
      have ha : afterP (s.1.set f (afterP s.1 (ags.getD i default) f)) (ags.getD i default) f = afterP s.1 (ags.getD i default) f := by
        conv => lhs; unfold afterP
        rw [getD_set hfl, if_neg (fun e => hne e.symm)]
        rfl
      rw [ha, if_pos rfl]
      exact ⟨hl1, lessP_of hl1 hl1 (.inr ⟨rfl, Nat.le_refl _⟩)⟩
    · rw [if_neg e] at hk hp ⊢
      obtain ⟨i', hi', hk', hl'⟩ := h.2 g hg hk hp
      refine ⟨i', hi', ?_⟩
      have h3 := lessP_not hk hk' hl'
      by_cases e2 : f = putN (ags.getD i' default) g
      · have hkn : (s.1.getD f default).known = true := by
          have := hk'
          unfold afterP at this
          dsimp only at this
          rw [← e2] at this
          exact this
        have ha : afterP (s.1.set f (afterP s.1 (ags.getD i default) f)) (ags.getD i' default) g = ⟨(afterP s.1 (ags.getD i default) f).cost + (ags.getD i' default).cost, (afterP s.1 (ags.getD i default) f).puts + 1, (afterP s.1 (ags.getD i default) f).known⟩ := by
          unfold afterP
          rw [getD_set hfl, if_pos e2]
        rw [ha]
        refine ⟨hl1, lessP_of hk hl1 ?_⟩
        dsimp only
        have h4 : afterP s.1 (ags.getD i' default) g = ⟨(s.1.getD f default).cost + (ags.getD i' default).cost, (s.1.getD f default).puts + 1, (s.1.getD f default).known⟩ := by
          unfold afterP
          rw [← e2]
        rw [h4] at h3
        dsimp only at h3
        rcases hl2 with h5 | h5 | h5
        · rw [hkn] at h5; cases h5
        · omega
        · omega
      · have ha : afterP (s.1.set f (afterP s.1 (ags.getD i default) f)) (ags.getD i' default) g = afterP s.1 (ags.getD i' default) g := by
          conv => lhs; unfold afterP
          rw [getD_set hfl, if_neg e2]
          rfl
        rw [ha]
        exact ⟨hk', hl'⟩
  · exact h
theorem Held.relaxF {ags : List Ag} {used f : Nat} (hf : f < 64) (hc : ∀ x ∈ ags, 1 ≤ x.cost) : ∀ (l : List Nat) (s : List Pr × Bool), (∀ i ∈ l, i ∈ canTo ags used f ags.length) → Held ags used s.1 → Held ags used (Go.Proofs.YtofkhehcnfiopaaDoor.N.relaxF ags f s l).1 := by
  intro l
  induction l with
  | nil => intro s _ h; exact h
  | cons i l ih =>
    intro s hl h
    unfold Go.Proofs.YtofkhehcnfiopaaDoor.N.relaxF
    rw [List.foldl_cons]
    refine ih _ (fun j hj => hl j (by simp [hj])) (h.relax hf (hl i (by simp)) (fun j hj => ?_))
    obtain ⟨h1, _⟩ := canTo_mem hj
    rw [List.getD_eq_getElem?_getD, List.getElem?_eq_getElem h1]
    exact hc _ (List.getElem_mem h1)
theorem Held.round {ags : List Ag} {used : Nat} {ps : List Pr} (hc : ∀ x ∈ ags, 1 ≤ x.cost) (h : Held ags used ps) : ∀ k, k ≤ 64 → Held ags used (roundP ags used ps k).1
  | 0, _ => h
  | k + 1, hk => Held.relaxF (by omega) hc _ _ (fun _ h => h) (Held.round hc h k (by omega))
theorem Held.init (ags : List Ag) (used p : Nat) : Held ags used (initP p 64) := by
  refine ⟨by simp [initP], fun f hf _ hp => ?_⟩
  exfalso
  rw [List.getD_eq_getElem?_getD] at hp
  simp [initP, hf] at hp
theorem Held.iter {ags : List Ag} {used p : Nat} (hc : ∀ x ∈ ags, 1 ≤ x.cost) : ∀ j, Held ags used (iterP ags used p j)
  | 0 => Held.init ags used p
  | j + 1 => Held.round hc (Held.iter hc j) 64 (Nat.le_refl _)
/-- A round that turns nothing. -/
theorem relax_ch {ags : List Ag} {f i : Nat} {s : List Pr × Bool} (h : (relax ags f s i).2 = false) : relax ags f s i = s ∧ s.2 = false ∧ lessP (afterP s.1 (ags.getD i default) f) (s.1.getD f default) = false := by
  unfold relax at h ⊢
  split
  · rename_i hc; rw [if_pos hc] at h; cases h
  · rename_i hc
    rw [if_neg hc] at h
    exact ⟨rfl, h, by simpa using hc⟩
theorem relaxF_ch {ags : List Ag} {f : Nat} : ∀ (l : List Nat) (s : List Pr × Bool), (relaxF ags f s l).2 = false → relaxF ags f s l = s ∧ s.2 = false ∧ ∀ i ∈ l, lessP (afterP s.1 (ags.getD i default) f) (s.1.getD f default) = false := by
  intro l
  induction l with
  | nil => intro s h; exact ⟨rfl, h, by simp⟩
  | cons i l ih =>
    intro s h
    unfold relaxF at h ⊢
    rw [List.foldl_cons] at h ⊢
    obtain ⟨h1, h2, h3⟩ := ih _ h
    obtain ⟨h4, h5, h6⟩ := relax_ch h2
    rw [h4] at h1 h3
    refine ⟨by rw [h4]; exact h1, h5, fun j hj => ?_⟩
    rcases List.mem_cons.1 hj with e | e
    · subst e; exact h6
    · exact h3 j e
theorem round_ch {ags : List Ag} {used : Nat} {ps : List Pr} : ∀ k, (roundP ags used ps k).2 = false → (roundP ags used ps k).1 = ps ∧ ∀ f, f < k → ∀ i ∈ canTo ags used f ags.length, lessP (afterP ps (ags.getD i default) f) (ps.getD f default) = false
  | 0, _ => ⟨rfl, fun f hf => absurd hf (by omega)⟩
  | k + 1, h => by
    obtain ⟨h1, h2, h3⟩ := relaxF_ch _ _ h
    obtain ⟨h4, h5⟩ := round_ch k h2
    rw [h4] at h3
    refine ⟨by show (relaxF _ _ _ _).1 = _; rw [h1, h4], fun f hf => ?_⟩
    rcases Nat.lt_or_ge f k with h6 | h6
    · exact h5 f h6
    · obtain rfl : f = k := by omega
      exact h3
/-- What prices must be like so that a way can be read off. -/
def Real (ags : List Ag) (used : Nat) (ps : List Pr) : Prop := ∀ f, f < 64 → (ps.getD f default).known = true → 0 < (ps.getD f default).puts → ∃ i ∈ canTo ags used f ags.length, afterP ps (ags.getD i default) f = ps.getD f default
theorem real_of {ags : List Ag} {used : Nat} {ps : List Pr} (h : Held ags used ps) (hf : (roundP ags used ps 64).2 = false) : Real ags used ps := by
  intro f hf64 hk hp
  obtain ⟨i, hi, h1, h2⟩ := h.2 f hf64 hk hp
  refine ⟨i, hi, ?_⟩
  have h3 := (round_ch 64 hf).2 f hf64 i hi
  have h4 := lessP_not hk h1 h2
  have h5 := lessP_not h1 hk h3
  generalize afterP ps (ags.getD i default) f = u at *
  generalize ps.getD f default = v at *
  obtain ⟨c, q, b⟩ := u
  obtain ⟨c', q', b'⟩ := v
  dsimp only at *
  subst h1; subst hk
  have e1 : c = c' := by omega
  have e2 : q = q' := by omega
  rw [e1, e2]
/-- The way that is read off. -/
def wayP (ags : List Ag) (used : Nat) (ps : List Pr) : Nat → Nat → List Nat
  | 0, _ => []
  | k + 1, f => match (canTo ags used f ags.length).find? (fun i => decide (afterP ps (ags.getD i default) f = ps.getD f default)) with
    | some i => i :: wayP ags used ps k (putN (ags.getD i default) f)
    | none => []
end Go.Proofs.YtofkhehcnfiopaaDoor.N
namespace Go.Proofs.YtofkhehcnfiopaaDoor.N
open Go Go.RowKit Go.Proofs
set_option linter.unusedSectionVars false
variable [I : Sys]
def pv (p : Pr) : Value := .agg p.cells.toArray
def Pr.ok (p : Pr) : Prop := p.cost ≤ 9000000000 ∧ p.puts ≤ 9000000000
def pls (p : Pr) : List Go.Lit := [.int .i64 (p.cost : Int), .int .i64 (p.puts : Int), .bool p.known]
theorem priceLaw : WideMaps.KeyLaw Tryd.prog 95 := deep_law (m := 2) (by omega) (by kernel_rfl) (by kernel_rfl) (by rw [Tryd.underlying95])
theorem kt95 : Tryd.prog.keyType 95 = true := by kernel_rfl
theorem co3 : Tryd.prog.cellsOf 3 = 1 := by kernel_rfl
theorem co4 : Tryd.prog.cellsOf 4 = 1 := by kernel_rfl
theorem co95 : Tryd.prog.cellsOf 95 = 3 := by kernel_rfl
theorem i64wf (n : Nat) (h : n ≤ 9000000000) : (Go.Lit.int .i64 (n : Int)).wf = true := by
  simp [Go.Lit.wf, IntKind.min, IntKind.max, IntKind.signed, IntKind.bits]
  omega
theorem keyLits_i64 {n : Nat} (h : n ≤ 9000000000) (d : Nat) : Tryd.prog.keyLits (d + 1) 3 [.int .i64 (n : Int)] = some [.int .i64 (n : Int)] := by
  unfold Program.keyLits
  rw [Tryd.underlying3]
  simp [i64wf _ h]
theorem keyLits_bool (b : Bool) (d : Nat) : Tryd.prog.keyLits (d + 1) 4 [.bool b] = some [.bool b] := by
  unfold Program.keyLits
  rw [Tryd.underlying4]
theorem keyLits_price {p : Pr} (h : p.ok) (d : Nat) : Tryd.prog.keyLits (d + 1 + 1) 95 p.cells = some (pls p) := by
  obtain ⟨h1, h2⟩ := h
  conv => lhs; unfold Program.keyLits
  rw [Tryd.underlying95]
  simp [co95, co3, co4, Pr.cells, pls, keyLits_i64 h1, keyLits_i64 h2, keyLits_bool]
theorem keyOf_price {p : Pr} (h : p.ok) : keyOf Tryd.prog 95 (pv p) = some (.string (keyBytes (pls p))) := by
  unfold keyOf
  rw [Tryd.underlying95]
  simp only [kt95, Bool.true_and]
  have hf : (pv p).formed Tryd.prog 95 = true := by
    simp [Value.formed, pv, Tryd.underlying95, co95, Pr.cells]
  rw [if_pos hf, tsz]
  have : (pv p).cells.toList = p.cells := rfl
  rw [this, keyLits_price h]
  rfl
theorem pv_inj {p q : Pr} (h : pv p = pv q) : p = q := by
  obtain ⟨a, b, c⟩ := p
  obtain ⟨a', b', c'⟩ := q
  simp [pv, Pr.cells] at h
  obtain ⟨h1, h2, h3⟩ := h
  subst h3
  have e1 : a = a' := by omega
  have e2 : b = b' := by omega
  rw [e1, e2]
theorem run_eq_price {p q : Pr} (hp : p.ok) (hq : q.ok) (x y : Operand) (w : World) : (do eqGuard .eql 95 x y (pv p) (pv q); binOp .eql 95 (pv p) (pv q) : Sem Value).run Tryd.prog w = .ok (.bool (decide (p = q))) w := by
  obtain ⟨r, hr, hiff⟩ := run_equal_deep (P := Tryd.prog) w (m := 2) (by omega) (k := 95) (by kernel_rfl) (by rw [Tryd.underlying95]) (keyOf_price hp) (keyOf_price hq)
  have hg : (eqGuard .eql 95 x y (pv p) (pv q)).run Tryd.prog w = .ok () w := by
    have h1 : Tryd.prog.eqGuardType Tryd.prog.depth 95 = false := by kernel_rfl
    have hp : (program : Sem Program).run Tryd.prog w = .ok Tryd.prog w := rfl
    simp only [eqGuard, pv]
    simp
  have hb : (binOp .eql 95 (pv p) (pv q)).run Tryd.prog w = .ok (.bool r) w := by
    show (do pure (.bool (← Op.equal 95 (pv p) (pv q))) : Sem Value).run Tryd.prog w = _
    simp only [Sem.run_bind, hr, Result.andThen_ok, Sem.run_pure]
  simp only [Sem.run_bind, hg, Result.andThen_ok, hb]
  have e1 : r = true ↔ p = q := by
    rw [hiff]
    constructor
    · intro e
      exact pv_inj (priceLaw.inj (by rw [keyOf_price hp, e]) (keyOf_price hq))
    · rintro rfl; rfl
  have e2 : r = decide (p = q) := by
    cases r with
    | true => simp [e1.1 rfl]
    | false =>
      have : p ≠ q := fun e => by have := e1.2 e; cases this
      simp [this]
  rw [e2]
end Go.Proofs.YtofkhehcnfiopaaDoor.N
namespace Go.Proofs.YtofkhehcnfiopaaDoor.N
open Go Go.RowKit Go.Proofs
set_option linter.unusedSectionVars false
variable [I : Sys]
def cheapW (ags : List Ag) (used : Nat) (ps : List Pr) (f : Nat) : List Nat := if (ps.getD f default).known = true then wayP ags used ps (ps.getD f default).puts f else []
def cheapC (ps : List Pr) (f : Nat) : Nat := if (ps.getD f default).known = true then (ps.getD f default).cost else 0
def cheapE (ps : List Pr) (f : Nat) : Nat := if (ps.getD f default).known = true then 0 else 11
theorem Bd.pok {ps : List Pr} {m : Nat} (h : Bd ps m) (hm : m ≤ 100000000) (k : Nat) : Pr.ok (ps.getD k default) := by
  have := h.get k
  unfold Pr.ok
  omega
theorem Bd.aok {ps : List Pr} {m : Nat} (h : Bd ps m) (hm : m ≤ 100000000) {x : Ag} (hx : x.ok) (f : Nat) : Pr.ok (afterP ps x f) := by
  have := h.after hx.cost.2 f
  unfold Pr.ok
  omega
theorem find_first {l : List Nat} {q : Nat → Bool} : ∀ {t i : Nat}, l[t]? = some i → (∀ j ∈ l.take t, q j = false) → q i = true → l.find? q = some i := by
  induction l with
  | nil => intro t i h; simp at h
  | cons a l ih =>
    intro t i h h0 h1
    cases t with
    | zero =>
      simp at h
      subst h
      rw [List.find?_cons_of_pos h1]
    | succ t =>
      have ha := h0 a (by simp)
      rw [List.find?_cons_of_neg (by rw [ha]; simp)]
      exact ih (by simpa using h) (fun j hj => h0 j (by simp [hj])) h1
theorem wayP_step {ags : List Ag} {used f i t k : Nat} {ps : List Pr} (hi : (canTo ags used f ags.length)[t]? = some i) (h0 : ∀ j ∈ (canTo ags used f ags.length).take t, afterP ps (ags.getD j default) f ≠ ps.getD f default) (h1 : afterP ps (ags.getD i default) f = ps.getD f default) :
    wayP ags used ps (k + 1) f = i :: wayP ags used ps k (putN (ags.getD i default) f) := by
  conv => lhs; unfold wayP
  rw [find_first (q := fun i => decide (afterP ps (ags.getD i default) f = ps.getD f default)) hi (fun j hj => by simpa using h0 j hj) (by simpa using h1)]
theorem after_next {ps : List Pr} {x : Ag} {f : Nat} (h : afterP ps x f = ps.getD f default) (hk : (ps.getD f default).known = true) : (ps.getD (putN x f) default).known = true ∧ (ps.getD (putN x f) default).puts + 1 = (ps.getD f default).puts := by
  rw [← h] at hk ⊢
  exact ⟨hk, rfl⟩
end Go.Proofs.YtofkhehcnfiopaaDoor.N
namespace Go.Proofs.YtofkhehcnfiopaaDoor.N
open Go Go.RowKit Go.Proofs
set_option linter.unusedSectionVars false
variable [I : Sys]
theorem F.ent88 : Enters Tryd.prog 88 := enters_of Tryd.func88 rfl (by kernel_rfl)
theorem Cheapest_ok (A : Option Addr) (c : Nat) (ags : List Ag) (hok : Oks ags) (f p N : Nat) (hf : f < 64) (hp : p < 64) (hN64 : N ≤ 1000) (hN : (roundP ags (usedAll ags.length) (iterP ags (usedAll ags.length) p N) 64).2 = false) (w : World) (hA : RdL Ag.cells 5 w A ags) : Calls Tryd.prog 35 #[.slice A ags.length c, .int .i64 (f : Int), .int .i64 (p : Int)] w fun e w' => ∃ j ps A' c', j ≤ N ∧ iterP ags (usedAll ags.length) p j = ps ∧ (roundP ags (usedAll ags.length) ps 64).2 = false ∧ e = .returned (.tuple #[.slice A' (cheapW ags (usedAll ags.length) ps f).length c', .int .i64 (cheapC ps f : Int), .int .i64 (cheapE ps f : Int)]) ∧ Grew w w' [.row 3 1 A' (cheapW ags (usedAll ags.length) ps f).length c' (ints (cheapW ags (usedAll ags.length) ps f))] := by
  have hua : usedAll ags.length < 256 := by have := usedAll_lt hok.1; omega
  refine enter_defers (N := 84) [(0, .slice A ags.length c), (1, .int .i64 (f : Int)), (2, .int .i64 (p : Int))] Tryd.func35 rfl Tryd.ntmps35 rfl rfl ?_
  refine cod_seq ?_
  refine cod_region ?_
  refine lst_assign rfl rfl ?_
  refine lst_assign rfl rfl ?_
  refine lst_alloc rfl F.ti35 ?_
  intro b8
  refine lst_nil ?_
  refine ex_then ?_
  refine cod_seq ?_
  refine cod_region ?_
  refine lst_defer (first := []) (cap := []) (vs := [_]) rfl rfl ?_
  refine lst_nil ?_
  refine ex_then ?_
  refine cod_seq ?_
  refine cod_region ?_
  refine lst_move rfl rfl ?_
  refine lst_fn (X := Option Addr × Nat) (vs := [_]) (p := fun _ => True) (val := fun x => .agg [.slice x.1 ags.length x.2, .int .u8 (usedAll ags.length : Nat)].toArray) (rs := fun x => [.row 89 5 x.1 ags.length x.2 (ags.flatMap Ag.cells)]) rfl rfl F.ent75 (fun a w ha => (begin_ok A c ags hok w (hA.later ha.below)).mono (fun e w' h => by obtain ⟨A', c', h1, h2⟩ := h; exact ⟨(A', c'), trivial, h1, h2⟩)) ?_
  rintro ⟨aA, cg⟩ -
  dsimp only [List.cons_append, List.nil_append]
  refine lst_know (φ := 0 < ags.length → ∃ g, aA = some ⟨g, 0, none⟩) (fun a w ha h => row_some (ha.own (.row 89 5 aA ags.length cg (ags.flatMap Ag.cells)) (by simp)) h) (fun hsome => ?_)
  refine lst_alloc rfl F.ti75 ?_
  intro b9
  refine lst_store rfl rfl F.ti75 rfl ?_
  refine lst_nil ?_
  refine ex_then ?_
  refine cod_seq ?_
  refine cod_region ?_
  refine lst_move rfl rfl ?_
  refine lst_fn0 (vs := [_]) rfl rfl F.ent76 (fun a w ha => melt_ok f hf w) ?_
  refine lst_move rfl rfl ?_
  refine lst_fn0 (vs := [_]) rfl rfl F.ent76 (fun a w ha => melt_ok p hp w) ?_
  refine lst_assign rfl rfl ?_
  refine lst_assign rfl rfl ?_
  refine lst_nil ?_
  refine ex_then ?_
  refine cod_seq ?_
  refine cod_region ?_
  refine lst_loadN rfl rfl F.agg75 F.ti75 ?_
  refine lst_move rfl rfl ?_
  refine lst_call (X := Nat × Nat) (first := []) (cap := []) (vs := [_, _]) (p := fun y => y.1 ≤ N ∧ (roundP ags (usedAll ags.length) (iterP ags (usedAll ags.length) p y.1) 64).2 = false) (val := fun y => .pointer (some ⟨y.2, 0, none⟩)) (rs := fun y => .blk y.2 (.cells (mcells (.func (.func 116) #[] #[]) (iterP ags (usedAll ags.length) p (y.1 + 1))).toArray 99 (0, 0)) :: .blk b9 (.cells [.slice aA ags.length cg, .int .u8 (usedAll ags.length : Nat)].toArray 75 (0, 0)) :: .row 89 5 aA ags.length cg (ags.flatMap Ag.cells) :: [.blk b8 (.cells [.int .i64 0].toArray 35 (0, 0))]) rfl rfl rfl F.ent88 (fun a w ha => (prices_c rfl hok hua hp hN64 hN (by simp) ha).mono (fun e w' h => by obtain ⟨j, b, h1, h2, h3, h4⟩ := h; exact ⟨(j, b), ⟨h1, h2⟩, h3, h4⟩)) ?_
  rintro ⟨j, bm⟩ ⟨hjN, hfx⟩
  dsimp only at hjN hfx ⊢
  have hsame : iterP ags (usedAll ags.length) p (j + 1) = iterP ags (usedAll ags.length) p j := (round_ch 64 hfx).1
  rw [hsame]
  have hBd := Bd.iter (used := usedAll ags.length) (p := p) hok j
  have hreal := real_of (Held.iter (used := usedAll ags.length) (p := p) (fun x hx => (hok.2 x hx).cost.1) j) hfx
  obtain ⟨ps, hpsd⟩ : ∃ ps, iterP ags (usedAll ags.length) p j = ps := ⟨_, rfl⟩
  rw [hpsd] at hBd hreal hfx ⊢
  have hmM : 256 * j ≤ 100000000 := by omega
  have hget : ∀ g, g < 64 → ps[g]? = some (ps.getD g default) := fun g hg => getD_some (by rw [hBd.1]; exact hg)
  refine lst_assign rfl rfl ?_
  refine lst_nil ?_
  refine ex_then ?_
  refine cod_seq ?_
  refine cod_seq ?_
  refine cod_region ?_
  refine lst_move rfl rfl ?_
  refine lst_move rfl rfl ?_
  refine lst_nilCheck rfl rfl ?_
  refine lst_field_z rfl rfl F.fi99_1 F.ti97 ?_
  refine lst_index_arr (j := f) rfl rfl rfl Tryd.underlying97 F.ti95 rfl hf ?_
  refine lst_field rfl rfl F.fi95_2 F.ti4 ?_
  refine lst_load_at (v := .bool (ps.getD f default).known) rfl rfl F.one4 (fun a w ha => cell_of_blk (ha.mem_blk (InB.mem (b := bm))) (mcells_get _ ps (j := 2) (hget f hf) rfl)) ?_
  refine lst_not rfl rfl ?_
  refine lst_nil ?_
  refine ex_then ?_
  refine cod_cond_bool rfl (fun hc0 => ?_) (fun hc0 => ?_)
  · skip
    have hkn : ¬ (ps.getD f default).known = true := by intro h; rw [h] at hc0; cases hc0
    refine cod_seq ?_
    refine cod_region ?_
    refine lst_assign rfl rfl ?_
    refine lst_assign rfl rfl ?_
    refine lst_store rfl rfl F.ti35 rfl ?_
    refine lst_nil ?_
    refine ex_then ?_
    refine cod_ret ?_
    refine ex_then_ret ?_
    exact ex_ret_caught (fun a w ha => ⟨_, res_ttc (fn := Tryd.f35) ha rfl rfl rfl rfl F.one35, j, ps, none, 0, hjN, hpsd, hfx, by rw [show cheapW ags (usedAll ags.length) ps f = [] from if_neg hkn, show cheapC ps f = 0 from if_neg hkn, show cheapE ps f = 11 from if_neg hkn]; rfl, by rw [show cheapW ags (usedAll ags.length) ps f = [] from if_neg hkn]; exact (ha.add_nil 3 1).grown sbl⟩)
  · skip
    have hkn : (ps.getD f default).known = true := by simpa using hc0
    refine cod_skip ?_
    refine ex_then ?_
    refine cod_seq ?_
    refine cod_region ?_
    refine lst_move rfl rfl ?_
    refine lst_move rfl rfl ?_
    refine lst_nilCheck rfl rfl ?_
    refine lst_field_z rfl rfl F.fi99_1 F.ti97 ?_
    refine lst_index_arr (j := f) rfl rfl rfl Tryd.underlying97 F.ti95 rfl hf ?_
    refine lst_field rfl rfl F.fi95_0 F.ti3 ?_
    refine lst_load_at (v := .int .i64 ((ps.getD f default).cost : Int)) rfl rfl F.one3 (fun a w ha => cell_of_blk (ha.mem_blk (InB.mem (b := bm))) (mcells_get _ ps (j := 0) (hget f hf) rfl)) ?_
    refine lst_assign rfl rfl ?_
    refine lst_nil ?_
    refine ex_then ?_
    refine cod_seq ?_
    refine cod_block ?_
    refine cod_nil 3 1 ?_
    refine cod_loop' (G := Nat × List Nat × Option Addr × Nat) (fun g => g.1 < 64 ∧ (ps.getD g.1 default).known = true ∧ wayP ags (usedAll ags.length) ps (ps.getD f default).puts f = g.2.1 ++ wayP ags (usedAll ags.length) ps (ps.getD g.1 default).puts g.1 ∧ g.2.1.length + (ps.getD g.1 default).puts = (ps.getD f default).puts) (fun g => (ps.getD g.1 default).puts) (fun g => [(6, .slice g.2.2.1 g.2.1.length g.2.2.2), (7, .int .i64 ((ps.getD f default).cost : Int)), (8, .pointer (some ⟨b8, 0, none⟩)), (9, .pointer (some ⟨b9, 0, none⟩)), (10, .int .u8 (g.1 : Int)), (12, .pointer (some ⟨bm, 0, none⟩))]) (fun g => .row 3 1 g.2.2.1 g.2.1.length g.2.2.2 (ints g.2.1) :: .blk bm (.cells (mcells (.func (.func 116) #[] #[]) ps).toArray 99 (0, 0)) :: .blk b9 (.cells [.slice aA ags.length cg, .int .u8 (usedAll ags.length : Nat)].toArray 75 (0, 0)) :: .row 89 5 aA ags.length cg (ags.flatMap Ag.cells) :: [.blk b8 (.cells [.int .i64 0].toArray 35 (0, 0))]) (f, [], none, 0) ⟨hf, hkn, rfl, by simp⟩ sbn pkk ?_
    rintro ⟨f1, l, A1, c1⟩ ⟨hf1, hk1, hw1, hl1⟩
    dsimp only at hf1 hk1 hw1 hl1 ⊢
    refine cod_seq ?_
    refine cod_seq ?_
    refine cod_region ?_
    refine lst_move rfl rfl ?_
    refine lst_move rfl rfl ?_
    refine lst_nilCheck rfl rfl ?_
    refine lst_field_z rfl rfl F.fi99_1 F.ti97 ?_
    refine lst_index_arr (j := f1) rfl rfl rfl Tryd.underlying97 F.ti95 rfl hf1 ?_
    refine lst_field rfl rfl F.fi95_1 F.ti3 ?_
    refine lst_load_at (v := .int .i64 ((ps.getD f1 default).puts : Int)) rfl rfl F.one3 (fun a w ha => cell_of_blk (ha.mem_blk (InB.mem (b := bm))) (mcells_get _ ps (j := 1) (hget f1 hf1) rfl)) ?_
    refine lst_int rfl rfl rfl bin_gtr ?_
    refine lst_nil ?_
    refine ex_then ?_
    refine cod_cond_dec rfl (fun hc1 => ?_) (fun hc1 => ?_)
    · skip
      have hpb := hBd.get f
      refine cod_skip ?_
      refine ex_then ?_
      refine cod_block ?_
      refine cod_seq ?_
      refine cod_region ?_
      refine lst_loadN rfl rfl F.agg75 F.ti75 ?_
      refine lst_move rfl rfl ?_
      refine lst_fn (X := Option Addr × Nat) (vs := [_, _]) (p := fun _ => True) (val := fun x => .slice x.1 (canTo ags (usedAll ags.length) f1 ags.length).length x.2) (rs := fun x => [.row 3 1 x.1 (canTo ags (usedAll ags.length) f1 ags.length).length x.2 (ints (canTo ags (usedAll ags.length) f1 ags.length))]) rfl rfl F.ent89 (fun a w ha => (can_c aA cg ags (usedAll ags.length) f1 hok hua (by omega) w (row_reads ha (cells := Ag.cells) (e := 89) (c := cg) (n := ags.length) (fun _ => rfl) (by simp) rfl)).mono (fun e w' h => by obtain ⟨A', c', h1, h2⟩ := h; exact ⟨(A', c'), trivial, h1, h2⟩)) ?_
      rintro ⟨cA, cc⟩ -
      dsimp only [List.cons_append, List.nil_append]
      refine lst_len rfl rfl Tryd.underlying25 ?_
      refine lst_move rfl rfl ?_
      refine lst_nil ?_
      refine ex_then ?_
      refine cod_block ?_
      refine cod_loop (G := Nat) (fun t => t ≤ (canTo ags (usedAll ags.length) f1 ags.length).length ∧ ∀ i ∈ (canTo ags (usedAll ags.length) f1 ags.length).take t, afterP ps (ags.getD i default) f1 ≠ ps.getD f1 default) (fun t => (canTo ags (usedAll ags.length) f1 ags.length).length - t) (fun t => [(6, .slice A1 l.length c1), (7, .int .i64 ((ps.getD f default).cost : Int)), (8, .pointer (some ⟨b8, 0, none⟩)), (9, .pointer (some ⟨b9, 0, none⟩)), (10, .int .u8 (f1 : Int)), (12, .pointer (some ⟨bm, 0, none⟩)), (49, .slice cA (canTo ags (usedAll ags.length) f1 ags.length).length cc), (50, .int .i64 ((canTo ags (usedAll ags.length) f1 ags.length).length : Int)), (51, .int .i64 (t : Int))]) (fun t => .row 3 1 cA (canTo ags (usedAll ags.length) f1 ags.length).length cc (ints (canTo ags (usedAll ags.length) f1 ags.length)) :: .row 3 1 A1 l.length c1 (ints l) :: .blk bm (.cells (mcells (.func (.func 116) #[] #[]) ps).toArray 99 (0, 0)) :: .blk b9 (.cells [.slice aA ags.length cg, .int .u8 (usedAll ags.length : Nat)].toArray 75 (0, 0)) :: .row 89 5 aA ags.length cg (ags.flatMap Ag.cells) :: [.blk b8 (.cells [.int .i64 0].toArray 35 (0, 0))]) 0 ⟨Nat.zero_le _, by simp⟩ sbn sbl ?_
      intro t ht
      (try dsimp only at hk ⊢)
      refine cod_seq ?_
      refine cod_region ?_
      refine lst_int rfl rfl rfl bin_lss ?_
      refine lst_nil ?_
      refine ex_then ?_
      refine cod_seq ?_
      refine cod_cond_dec rfl (fun hc2 => ?_) (fun hc2 => ?_)
      · skip
        have ht' : t < (canTo ags (usedAll ags.length) f1 ags.length).length := by omega
        obtain ⟨i, hci⟩ : ∃ i, (canTo ags (usedAll ags.length) f1 ags.length)[t]? = some i := ⟨_, List.getElem?_eq_getElem ht'⟩
        obtain ⟨hi', _, _⟩ := canTo_mem (List.mem_of_getElem? hci)
        have hol := hok.1
        obtain ⟨gA, hgA⟩ : ∃ g, aA = some ⟨g, 0, none⟩ := hsome (by omega)
        subst hgA
        obtain ⟨x, hx⟩ : ∃ x, ags[i]? = some x := ⟨_, List.getElem?_eq_getElem hi'⟩
        have hxo : x.ok := hok.2 x (List.mem_of_getElem? hx)
        have hxd : ags.getD i default = x := by rw [List.getD_eq_getElem?_getD, hx]; rfl
        have hcl := canTo_len ags (usedAll ags.length) f1 ags.length
        refine cod_skip ?_
        refine ex_then ?_
        refine cod_seq ?_
        refine cod_block ?_
        refine cod_seq ?_
        refine cod_region ?_
        refine lst_index_row (j := t) rfl rfl rfl Tryd.underlying25 F.ti3 rfl ht' rfl rfl ?_
        intro gC hgC
        refine lst_load_row (v := .int .i64 (i : Int)) rfl rfl F.one3 hgC (ints_get hci) ?_
        refine lst_assign rfl rfl ?_
        refine lst_nil ?_
        refine ex_then ?_
        refine cod_seq ?_
        refine any_begin [] F.follows 15 rfl [false, false, false, false, false, false, false, false, false, false, false, false, false, false, false] rfl ?_
        refine any_tk 0 rfl rfl rfl (yld_move rfl) ?_
        refine any_tk 1 rfl rfl rfl (yld_field_z rfl F.fi75_0 F.ti72) ?_
        refine any_tk 2 rfl rfl rfl (yld_load rfl F.one72) ?_
        refine any_tk 3 rfl rfl rfl (yld_move rfl) ?_
        refine any_tk 4 rfl rfl rfl (yld_index (j := i) rfl rfl Tryd.underlying72 F.ti89 rfl hi') ?_
        refine any_tk 5 rfl rfl rfl (yld_loadN_at (l := [.int .i64 (x.needs : Int), .int .i64 (x.no : Int), .int .i64 (x.takes : Int), .int .i64 (x.leaves : Int), .int .i64 (x.cost : Int)]) rfl F.agg89 F.ti89 rfl (fun a w ha j u hu => row_at ha (e := 89) (n := ags.length) (c := cg) (cells := Ag.cells) (by simp) (fun _ => rfl) hx hu)) ?_
        refine any_tk 6 rfl rfl rfl (yld_move rfl) ?_
        refine any_tk 8 rfl rfl rfl (yld_move rfl) ?_
        refine any_tk 9 rfl rfl rfl (yld_move rfl) ?_
        refine any_tk 10 rfl rfl rfl (yld_nilCheck rfl) ?_
        refine any_tk 11 rfl rfl rfl (yld_field_z rfl F.fi99_1 F.ti97) ?_
        refine any_tk 12 rfl rfl rfl (yld_index_arr (j := f1) rfl rfl Tryd.underlying97 F.ti95 rfl hf1) ?_
        refine any_tk 13 rfl rfl rfl (yld_loadN_at (l := [.int .i64 ((ps.getD f1 default).cost : Int), .int .i64 ((ps.getD f1 default).puts : Int), .bool (ps.getD f1 default).known]) rfl F.agg95 F.ti95 rfl (fun a w ha j u hu => cell_of_blk (ha.mem_blk (InB.mem (b := bm))) (mcells_get _ ps (hget f1 hf1) hu))) ?_
        refine any_one 7 (by kernel_rfl) rfl rfl ?_
        refine lst_call (X := Unit) (first := []) (cap := []) (vs := [_, _, _]) (p := fun _ => True) (val := fun _ => .agg [.int .i64 ((afterP ps x f1).cost : Int), .int .i64 ((afterP ps x f1).puts : Int), .bool (afterP ps x f1).known].toArray) (rs := fun _ => .row 3 1 cA (canTo ags (usedAll ags.length) f1 ags.length).length cc (ints (canTo ags (usedAll ags.length) f1 ags.length)) :: .row 3 1 A1 l.length c1 (ints l) :: .blk bm (.cells (mcells (.func (.func 116) #[] #[]) ps).toArray 99 (0, 0)) :: .blk b9 (.cells [.slice (some ⟨gA, 0, none⟩) ags.length cg, .int .u8 (usedAll ags.length : Nat)].toArray 75 (0, 0)) :: .row 89 5 (some ⟨gA, 0, none⟩) ags.length cg (ags.flatMap Ag.cells) :: [.blk b8 (.cells [.int .i64 0].toArray 35 (0, 0))]) rfl rfl rfl F.ent90 (fun a w ha => (after_c (bm := bm) (x := x) (f := f1) (T := .row 3 1 cA (canTo ags (usedAll ags.length) f1 ags.length).length cc (ints (canTo ags (usedAll ags.length) f1 ags.length)) :: .row 3 1 A1 l.length c1 (ints l) :: .blk b9 (.cells [.slice (some ⟨gA, 0, none⟩) ags.length cg, .int .u8 (usedAll ags.length : Nat)].toArray 75 (0, 0)) :: .row 89 5 (some ⟨gA, 0, none⟩) ags.length cg (ags.flatMap Ag.cells) :: [.blk b8 (.cells [.int .i64 0].toArray 35 (0, 0))]) rfl hxo hf1 hBd hmM (ha.pck pkk)).mono (fun e w' h => by exact ⟨(), trivial, h.1, h.2.pck pkk⟩)) ?_
        rintro ⟨⟩ -
        dsimp only
        refine lst_nil ?_
        refine any_next sbl ?_
        refine any_tk 14 rfl rfl rfl (yld_bin rfl rfl (run_eq_price (p := afterP ps x f1) (q := ps.getD f1 default) (hBd.aok hmM hxo f1) (hBd.pok hmM f1) _ _)) ?_
        refine any_done rfl (by kernel_rfl) ?_
        refine ex_then ?_
        refine cod_cond_dec rfl (fun hc3 => ?_) (fun hc3 => ?_)
        · skip
          refine cod_seq ?_
          refine any_begin [.r A1] F.follows 13 rfl [false, false, false, false, false, false, false, false, false, false, false, false, false] rfl ?_
          refine any_tk 0 rfl rfl rfl (yld_move rfl) ?_
          refine any_tk 1 rfl rfl rfl (yld_move rfl) ?_
          refine any_tk 4 rfl rfl rfl (yld_field_z rfl F.fi75_0 F.ti72) ?_
          refine any_tk 5 rfl rfl rfl (yld_load rfl F.one72) ?_
          refine any_tk 6 rfl rfl rfl (yld_move rfl) ?_
          refine any_tk 7 rfl rfl rfl (yld_index (j := i) rfl rfl Tryd.underlying72 F.ti89 rfl hi') ?_
          refine any_tk 8 rfl rfl rfl (yld_loadN_at (l := [.int .i64 (x.needs : Int), .int .i64 (x.no : Int), .int .i64 (x.takes : Int), .int .i64 (x.leaves : Int), .int .i64 (x.cost : Int)]) rfl F.agg89 F.ti89 rfl (fun a w ha j u hu => row_at ha (e := 89) (n := ags.length) (c := cg) (cells := Ag.cells) (by simp) (fun _ => rfl) hx hu)) ?_
          refine any_tk 9 rfl rfl rfl (yld_move rfl) ?_
          refine any_one 2 (by kernel_rfl) rfl rfl ?_
          refine lst_lit (vs := [(0, _)]) rfl rfl Tryd.underlying25 F.ti3 rfl rfl rfl ?_
          intro b72
          refine lst_nil ?_
          refine any_next sbl ?_
          refine any_one 3 (by kernel_rfl) rfl rfl ?_
          refine lst_append rfl rfl rfl Tryd.underlying25 F.ti3 rfl rfl rfl (by unfold maxLen; omega) (by omega) ?_
          intro A2 c2
          refine lst_nil ?_
          refine any_next sbl ?_
          refine any_one 10 (by kernel_rfl) rfl rfl ?_
          refine lst_fn0 (vs := [_, _]) rfl rfl F.ent91 (fun a w ha => put_c x f1 hxo (by omega) w) ?_
          refine lst_nil ?_
          refine any_next sbl ?_
          refine any_tk 11 rfl rfl rfl (yld_assign rfl) ?_
          refine any_tk 12 rfl rfl rfl (yld_assign rfl) ?_
          refine any_done rfl (by kernel_rfl) ?_
          refine ex_then ?_
          refine cod_exit ?_
          refine ex_block_other rfl ?_
          refine ex_then_exit ?_
          refine ex_then_exit ?_
          refine ex_block_exit ?_
          refine ex_block_normal ?_
          obtain ⟨hn1, hn2⟩ := after_next hc3 hk1
          have hws := wayP_step (k := (ps.getD (putN x f1) default).puts) hci ht.2 (by rw [hxd]; exact hc3)
          rw [hxd, hn2] at hws
          rw [hws] at hw1
          refine ex_round' (putN x f1, l ++ [i], A2, c2) ⟨putN_lt hxo hf1, hn1, by rw [hw1, List.append_assoc]; rfl, by dsimp only; rw [List.length_append, List.length_singleton]; omega⟩ (by (try dsimp only); omega) (by dsimp only; rw [List.length_append, List.length_singleton]; repeat (first | exact Sub.nil _ | refine Sub.cons rfl ?_)) (by dsimp only; rw [List.length_append, List.length_singleton, ints_snoc]; repeat (first | exact Pck.nil _ | exact Pck.refl _ | (apply Pck.cons; focus ((repeat (first | exact Rem.here _ | apply Rem.there)); done)) | refine Pck.skip _ ?_))
        · skip
          refine cod_skip ?_
          refine ex_block_normal ?_
          refine ex_then ?_
          refine cod_region ?_
          refine lst_int rfl rfl rfl (fun w => bin_add w (wrap_i64' _ (by omega) (by omega))) ?_
          refine lst_move rfl rfl ?_
          refine lst_nil ?_
          refine ex_round (t + 1) ⟨by omega, fun i' hi2 => ?_⟩ (by (try dsimp only); omega) sbn sbl
          rw [List.take_add_one, hci] at hi2
          rcases List.mem_append.1 hi2 with h | h
          · exact ht.2 i' h
          · simp at h; subst h; rw [hxd]; exact hc3
      · skip
        exfalso
        obtain ⟨i, hi, he⟩ := hreal f1 hf1 hk1 (by omega)
        exact ht.2 i (by rw [List.take_of_length_le (by omega)]; exact hi) he -- done
    · skip
      have hp0 : (ps.getD f1 default).puts = 0 := by omega
      rw [hp0] at hw1
      have hlW : l = cheapW ags (usedAll ags.length) ps f := by
        rw [cheapW, if_pos hkn, hw1, wayP, List.append_nil]
      refine cod_exit ?_
      refine ex_then_exit ?_
      refine ex_then_exit ?_
      refine ex_block_exit ?_
      refine ex_then ?_
      refine cod_seq ?_
      refine cod_region ?_
      refine lst_move rfl rfl ?_
      refine lst_move rfl rfl ?_
      refine lst_assign rfl rfl ?_
      refine lst_assign rfl rfl ?_
      refine lst_store rfl rfl F.ti35 rfl ?_
      refine lst_nil ?_
      refine ex_then ?_
      refine cod_ret ?_
      exact ex_ret_caught (fun a w ha => ⟨_, res_ttc (fn := Tryd.f35) ha rfl rfl rfl rfl F.one35, j, ps, A1, c1, hjN, hpsd, hfx, by rw [← hlW, show cheapC ps f = (ps.getD f default).cost from if_pos hkn, show cheapE ps f = 0 from if_pos hkn]; rfl, by rw [← hlW]; exact ha.grown sbl⟩)

end Go.Proofs.YtofkhehcnfiopaaDoor.N
namespace Go.Proofs.YtofkhehcnfiopaaDoor.N
open Go Go.RowKit Go.Proofs
set_option linter.unusedSectionVars false
variable [I : Sys]
theorem RdL.cast {w : World} {A : Option Addr} {l : List Nat} (h : RdL ncell 1 w A l) : RdL icell 1 w A (l.map fun (n : Nat) => (n : Int)) := fun hl => by
  obtain ⟨b, o, h1, h2, h3⟩ := h (by simpa using hl)
  refine ⟨b, o, h1, h2, fun k x hk j u hu => ?_⟩
  rw [List.getElem?_map] at hk
  obtain ⟨n, hn, rfl⟩ := Option.map_eq_some_iff.1 hk
  exact h3 k n hn j u hu
theorem eq_ints_ne {l m : List Int} {k : Nat} {x y : Int} (hx : l[k]? = some x) (hy : m[k]? = some y) (h : x ≠ y) : l ≠ m := fun e => by
  subst e
  rw [hx] at hy
  exact h (Option.some.inj hy)
theorem eq_ints_end {l m : List Int} {k : Nat} (h1 : k ≤ l.length) (_h2 : k ≤ m.length) (ht : l.take k = m.take k) (hk : ¬ (k < l.length ∧ k < m.length)) : decide ((l.length : Int) = (m.length : Int)) = decide (l = m) := by
  by_cases e : l.length = m.length
  · have hk1 : k = l.length := by omega
    have : l = m := by
      rw [List.take_of_length_le (by omega), List.take_of_length_le (by omega)] at ht
      exact ht
    simp [this]
  · have : l ≠ m := fun h => e (by rw [h])
    simp [this]
    omega
theorem take_eq_succ {l m : List Int} {k : Nat} {x : Int} (ht : l.take k = m.take k) (hx : l[k]? = some x) (hy : m[k]? = some x) : l.take (k + 1) = m.take (k + 1) := by
  rw [List.take_add_one, List.take_add_one, ht, hx, hy]
/-- The agents of the examples. -/
def sAgs : List Ag := [⟨1, 0, 1, 2, 1⟩, ⟨2, 4, 2, 0, 2⟩, ⟨4, 0, 4, 1, 1⟩, ⟨6, 1, 6, 0, 5⟩]
theorem sOks : Oks sAgs := by
  refine ⟨by decide, ?_⟩
  intro a ha
  simp [sAgs] at ha
  rcases ha with rfl | rfl | rfl | rfl <;> exact ⟨by decide, by decide, by decide, by decide, by decide, by decide⟩
end Go.Proofs.YtofkhehcnfiopaaDoor.N
