/- Parts of the walks of the laws on fining, those that FiningKnown needs: F23, Ned, F24, ReachR, More, F25, Shuf, AsV, AsF, AsT, AsG, F28, Ref, Rds, F30, PutS, PutP, F31, PutL, F32, Sx10, F33, Raw, F34, All, Eqa, Puts, F37, Sx12, Dist. -/
import Derived.Test.YtofkhehcnfiopaaDoorSFiningKnown06
import Derived.Test.YtofkhehcnfiopaaDoorSFiningKnown05
import Derived.Test.YtofkhehcnfiopaaDoorProg
import Derived.Test.YtofkhehcnfiopaaDoorSFiningKnown03
import Derived.Laws.Externs
import Derived.LaidEql
import Derived.Stop.Asserts
import Derived.RowKitTokens
import Derived.DeepKeys3
namespace Go.Proofs.YtofkhehcnfiopaaDoor.N
open Go Go.RowKit Go.Proofs
set_option linter.unusedSectionVars false
variable [I : Sys]
theorem F.ent100 : Enters Tryd.prog 100 := enters_of Tryd.func100 rfl (by kernel_rfl)
theorem F.ent101 : Enters Tryd.prog 101 := enters_of Tryd.func101 rfl (by kernel_rfl)
theorem Hopeless_ok (A : Option Addr) (c : Nat) (ags : List Ag) (hok : Oks ags) (p : Nat) (hp : p < 64) (w : World) (hA : RdL Ag.cells 5 w A ags) : Calls Tryd.prog 51 #[.slice A ags.length c, .int .i64 (p : Int)] w fun e w' => ∃ A' c', e = .returned (.tuple #[.slice A' (hopeL ags p).length c', .int .i64 0]) ∧ Grew w w' [.row 3 1 A' (hopeL ags p).length c' (ints (hopeL ags p))] := by
  have hua : usedAll ags.length < 256 := by have := usedAll_lt hok.1; omega
  refine enter_defers (N := 15) [(0, .slice A ags.length c), (1, .int .i64 (p : Int))] Tryd.func51 rfl Tryd.ntmps51 rfl rfl ?_
  refine cod_seq ?_
  refine cod_region ?_
  refine lst_assign rfl rfl ?_
  refine lst_alloc rfl F.ti35 ?_
  intro b5
  refine lst_nil ?_
  refine ex_then ?_
  refine cod_seq ?_
  refine cod_region ?_
  refine lst_defer (first := []) (cap := []) (vs := [_]) rfl rfl ?_
  refine lst_nil ?_
  refine ex_then ?_
  refine cod_seq ?_
  refine cod_region ?_
  refine lst_move rfl rfl ?_
  refine lst_fn (X := Option Addr × Nat) (vs := [_]) (p := fun _ => True) (val := fun x => .agg [.slice x.1 ags.length x.2, .int .u8 (usedAll ags.length : Nat)].toArray) (rs := fun x => [.row 89 5 x.1 ags.length x.2 (ags.flatMap Ag.cells)]) rfl rfl F.ent75 (fun a w ha => (begin_ok A c ags hok w (hA.later ha.below)).mono (fun e w' h => by obtain ⟨A', c', h1, h2⟩ := h; exact ⟨(A', c'), trivial, h1, h2⟩)) ?_
  rintro ⟨aA, cg⟩ -
  dsimp only [List.cons_append, List.nil_append]
  refine lst_alloc rfl F.ti75 ?_
  intro b6
  refine lst_store rfl rfl F.ti75 rfl ?_
  refine lst_nil ?_
  refine ex_then ?_
  refine cod_seq ?_
  refine any_begin [.b b5] F.follows 8 rfl [false, false, false, false, false, false, false, false] rfl ?_
  refine any_tk 0 rfl rfl rfl (yld_loadN rfl F.agg75 F.ti75) ?_
  refine any_tk 1 rfl rfl rfl (yld_move rfl) ?_
  refine any_one 2 (by kernel_rfl) rfl rfl ?_
  refine lst_fn0 (vs := [_]) rfl rfl F.ent76 (fun a w ha => melt_ok p hp w) ?_
  refine lst_nil ?_
  refine any_next sbl ?_
  refine any_one 3 (by kernel_rfl) rfl rfl ?_
  refine lst_call (X := Nat) (first := []) (cap := []) (vs := [_, _]) (p := fun n => SetN n (Clr ags (usedAll ags.length) p)) (val := fun n => .int .u64 (n : Int)) (rs := fun _ => .blk b6 (.cells [.slice aA ags.length cg, .int .u8 (usedAll ags.length : Nat)].toArray 75 (0, 0)) :: .row 89 5 aA ags.length cg (ags.flatMap Ag.cells) :: [.blk b5 (.cells [.int .i64 0].toArray 35 (0, 0))]) rfl rfl rfl F.ent100 (fun a w ha => (hopeful_c rfl hok hua hp (by simp) ha).mono (fun e w' h => h)) ?_
  intro n hset
  dsimp only at hset ⊢
  refine lst_nil ?_
  refine any_next sbl ?_
  refine any_one 4 (by kernel_rfl) rfl rfl ?_
  refine lst_not64 rfl rfl hset.1 rfl ?_
  refine lst_nil ?_
  refine any_next sbl ?_
  refine any_one 5 (by kernel_rfl) rfl rfl ?_
  refine lst_fn (X := Option Addr × Nat) (vs := [_]) (p := fun _ => True) (val := fun x => .slice x.1 (hopeL ags p).length x.2) (rs := fun x => [.row 3 1 x.1 (hopeL ags p).length x.2 (ints (hopeL ags p))]) rfl rfl F.ent101 (fun a w ha => (mlist_c (18446744073709551615 ^^^ n) hset.compl.1 w).mono (fun e w' h => by obtain ⟨A', c', h1, h2⟩ := h; rw [listN_flt hset.compl] at h1 h2; exact ⟨(A', c'), trivial, h1, h2⟩)) ?_
  rintro ⟨lA, lc⟩ -
  dsimp only [List.cons_append, List.nil_append]
  refine lst_nil ?_
  refine any_next sbl ?_
  refine any_tk 6 rfl rfl rfl (yld_assign rfl) ?_
  refine any_one 7 (by kernel_rfl) rfl rfl ?_
  refine lst_store rfl rfl F.ti35 rfl ?_
  refine lst_nil ?_
  refine any_next sbl ?_
  refine any_done rfl (by kernel_rfl) ?_
  refine ex_then ?_
  refine cod_ret ?_
  exact ex_ret_caught (fun a w ha => ⟨_, res_tc (fn := Tryd.f51) ha rfl rfl rfl F.one35, lA, lc, rfl, ha.grown sbl⟩)

theorem Needed_ok (A : Option Addr) (c : Nat) (ags : List Ag) (hok : Oks ags) (f p : Nat) (hf : f < 64) (hp : p < 64) (w : World) (hA : RdL Ag.cells 5 w A ags) : Calls Tryd.prog 55 #[.slice A ags.length c, .int .i64 (f : Int), .int .i64 (p : Int)] w fun e w' => ∃ (L : List Nat) (E : Nat) (A' : Option Addr) (c' : Nat), (E = 0 ∧ Clr ags (usedAll ags.length) p f ∧ L = needL ags p f ags.length ∨ E = 11 ∧ ¬ Clr ags (usedAll ags.length) p f ∧ L = []) ∧ e = .returned (.tuple #[.slice A' L.length c', .int .i64 (E : Int)]) ∧ Grew w w' [.row 3 1 A' L.length c' (ints L)] := by
  have hua : usedAll ags.length < 256 := by have := usedAll_lt hok.1; omega
  refine enter_defers (N := 60) [(0, .slice A ags.length c), (1, .int .i64 (f : Int)), (2, .int .i64 (p : Int))] Tryd.func55 rfl Tryd.ntmps55 rfl rfl ?_
  refine cod_seq ?_
  refine cod_region ?_
  refine lst_assign rfl rfl ?_
  refine lst_alloc rfl F.ti35 ?_
  intro b7
  refine lst_nil ?_
  refine ex_then ?_
  refine cod_seq ?_
  refine cod_region ?_
  refine lst_defer (first := []) (cap := []) (vs := [_]) rfl rfl ?_
  refine lst_nil ?_
  refine ex_then ?_
  refine cod_seq ?_
  refine cod_region ?_
  refine lst_move rfl rfl ?_
  refine lst_fn (X := Option Addr × Nat) (vs := [_]) (p := fun _ => True) (val := fun x => .agg [.slice x.1 ags.length x.2, .int .u8 (usedAll ags.length : Nat)].toArray) (rs := fun x => [.row 89 5 x.1 ags.length x.2 (ags.flatMap Ag.cells)]) rfl rfl F.ent75 (fun a w ha => (begin_ok A c ags hok w (hA.later ha.below)).mono (fun e w' h => by obtain ⟨A', c', h1, h2⟩ := h; exact ⟨(A', c'), trivial, h1, h2⟩)) ?_
  rintro ⟨aA, cg⟩ -
  dsimp only [List.cons_append, List.nil_append]
  refine lst_alloc rfl F.ti75 ?_
  intro b8
  refine lst_store rfl rfl F.ti75 rfl ?_
  refine lst_nil ?_
  refine ex_then ?_
  refine cod_seq ?_
  refine cod_region ?_
  refine lst_move rfl rfl ?_
  refine lst_fn0 (vs := [_]) rfl rfl F.ent76 (fun a w ha => melt_ok f hf w) ?_
  refine lst_move rfl rfl ?_
  refine lst_fn0 (vs := [_]) rfl rfl F.ent76 (fun a w ha => melt_ok p hp w) ?_
  refine lst_assign rfl rfl ?_
  refine lst_assign rfl rfl ?_
  refine lst_nil ?_
  refine ex_then ?_
  refine cod_seq ?_
  refine cod_seq ?_
  refine cod_region ?_
  refine lst_loadN rfl rfl F.agg75 F.ti75 ?_
  refine lst_move rfl rfl ?_
  refine lst_move rfl rfl ?_
  refine lst_call (X := Option Wk) (first := []) (cap := []) (vs := [_, _, _]) (p := FoundO ags (usedAll ags.length) 1 (-1) (f, 0, 0) (fun t => decide (nn t.1 p = 0))) (val := fun o => .tuple #[.slice (wayO o).A (wayO o).how.length (wayO o).c, .bool o.isSome]) (rs := fun o => .row 3 1 (wayO o).A (wayO o).how.length (wayO o).c (ints (wayO o).how) :: .blk b8 (.cells [.slice aA ags.length cg, .int .u8 (usedAll ags.length : Nat)].toArray 75 (0, 0)) :: .row 89 5 aA ags.length cg (ags.flatMap Ag.cells) :: [.blk b7 (.cells [.int .i64 0].toArray 35 (0, 0))]) rfl rfl rfl F.ent102 (fun a w ha => (shortest_c rfl hok hua ⟨hf, show (0 : Nat) < 64 by omega, show (0 : Nat) < 64 by omega⟩ (by omega) (by simp) ha).mono (fun e w' h => by obtain ⟨o, h1, h2, h3⟩ := h; exact ⟨o, h1, h2, h3⟩)) ?_
  intro o hfo
  dsimp only
  refine lst_move rfl rfl ?_
  refine lst_extract rfl rfl rfl ?_
  refine lst_extract rfl rfl rfl ?_
  refine lst_assign rfl rfl ?_
  refine lst_assign rfl rfl ?_
  refine lst_nil ?_
  refine ex_then ?_
  refine cod_seq ?_
  refine cod_region ?_
  refine lst_move rfl rfl ?_
  refine lst_not rfl rfl ?_
  refine lst_nil ?_
  refine ex_then ?_
  refine cod_cond_bool rfl (fun hc0 => ?_) (fun hc0 => ?_)
  · skip
    refine cod_seq ?_
    refine cod_region ?_
    refine lst_assign rfl rfl ?_
    refine lst_store rfl rfl F.ti35 rfl ?_
    refine lst_nil ?_
    refine ex_then ?_
    refine cod_ret ?_
    refine ex_then_ret ?_
    exact ex_ret_caught (fun a w ha => ⟨_, res_tc (fn := Tryd.f55) ha rfl rfl rfl F.one35, [], 11, none, 0, .inr ⟨rfl, (fun h => by rw [(short_spec hfo).1.2 h] at hc0; exact Bool.noConfusion hc0), rfl⟩, rfl, (ha.add_nil 3 1).grown sbl⟩)
  · skip
    refine cod_skip ?_
    refine ex_then ?_
    refine cod_seq ?_
    refine cod_seq ?_
    refine cod_region ?_
    refine lst_field_z rfl rfl F.fi75_0 F.ti72 ?_
    refine lst_load rfl rfl F.one72 ?_
    refine lst_len rfl rfl Tryd.underlying72 ?_
    refine lst_move rfl rfl ?_
    refine lst_nil ?_
    refine ex_then ?_
    refine cod_block ?_
    have hclr := (short_spec hfo).1.1 (by simpa using hc0)
    refine cod_nil 3 1 ?_
    refine cod_loop (G := Nat × Option Addr × Nat) (fun g => g.1 ≤ ags.length) (fun g => ags.length - g.1) (fun g => [(6, .slice g.2.1 (needL ags p f g.1).length g.2.2), (7, .pointer (some ⟨b7, 0, none⟩)), (8, .pointer (some ⟨b8, 0, none⟩)), (9, .int .u8 (f : Int)), (10, .int .u8 (p : Int)), (34, .int .i64 (ags.length : Int)), (35, .int .i64 (g.1 : Int))]) (fun g => .row 3 1 g.2.1 (needL ags p f g.1).length g.2.2 (ints (needL ags p f g.1)) :: .blk b8 (.cells [.slice aA ags.length cg, .int .u8 (usedAll ags.length : Nat)].toArray 75 (0, 0)) :: .row 89 5 aA ags.length cg (ags.flatMap Ag.cells) :: [.blk b7 (.cells [.int .i64 0].toArray 35 (0, 0))]) (0, none, 0) (Nat.zero_le _) sbn sbl ?_
    rintro ⟨k, A1, c1⟩ hk
    (try dsimp only at hk ⊢)
    refine cod_seq ?_
    refine cod_region ?_
    refine lst_int rfl rfl rfl bin_lss ?_
    refine lst_nil ?_
    refine ex_then ?_
    refine cod_seq ?_
    refine cod_cond_dec rfl (fun hc1 => ?_) (fun hc1 => ?_)
    · skip
      have hk' : k < ags.length := by omega
      have h4 := hok.1
      refine cod_skip ?_
      refine ex_then ?_
      refine cod_seq ?_
      refine cod_block ?_
      refine cod_seq ?_
      refine cod_region ?_
      refine lst_move rfl rfl ?_
      refine lst_assign rfl rfl ?_
      refine lst_nil ?_
      refine ex_then ?_
      refine cod_seq ?_
      refine cod_region ?_
      refine lst_loadN rfl rfl F.agg75 F.ti75 ?_
      refine lst_alloc rfl F.ti75 ?_
      intro b14
      refine lst_store rfl rfl F.ti75 rfl ?_
      refine lst_nil ?_
      refine ex_then ?_
      refine cod_seq ?_
      refine any_begin [.b b14] F.follows 7 rfl [false, false, false, false, false, false, false] rfl ?_
      refine any_tk 0 rfl rfl rfl (yld_field_z rfl F.fi75_1 F.ti73) ?_
      refine any_tk 2 rfl rfl rfl (yld_move rfl) ?_
      refine any_tk 3 rfl rfl rfl (yld_shl rfl rfl (by omega) (shl_u8 (by omega))) ?_
      refine any_one 1 (by kernel_rfl) rfl rfl ?_
      refine lst_load rfl rfl F.one73 ?_
      refine lst_nil ?_
      refine any_next sbl ?_
      refine any_tk 4 rfl rfl rfl (yld_int rfl rfl (fun w => bin_andNot w (u8_andNot _ _ hua (shl8_lt (by omega))))) ?_
      refine any_tk 5 rfl rfl rfl (yld_field_z rfl F.fi75_1 F.ti73) ?_
      refine any_one 6 (by kernel_rfl) rfl rfl ?_
      refine lst_store rfl rfl F.ti73 rfl ?_
      refine lst_nil ?_
      refine any_next sbl ?_
      refine any_done rfl (by kernel_rfl) ?_
      refine ex_then ?_
      refine cod_seq ?_
      refine cod_region ?_
      refine lst_loadN rfl rfl F.agg75 F.ti75 ?_
      refine lst_move rfl rfl ?_
      refine lst_move rfl rfl ?_
      refine lst_call (X := Option Wk) (first := []) (cap := []) (vs := [_, _, _]) (p := FoundO ags (butN ags.length k) 1 (-1) (f, 0, 0) (fun t => decide (nn t.1 p = 0))) (val := fun o => .tuple #[.slice (wayO o).A (wayO o).how.length (wayO o).c, .bool o.isSome]) (rs := fun o => .row 3 1 (wayO o).A (wayO o).how.length (wayO o).c (ints (wayO o).how) :: .blk b14 (.cells [.slice aA ags.length cg, .int .u8 (butN ags.length k : Nat)].toArray 75 (0, 0)) :: .row 3 1 A1 (needL ags p f k).length c1 (ints (needL ags p f k)) :: .blk b8 (.cells [.slice aA ags.length cg, .int .u8 (usedAll ags.length : Nat)].toArray 75 (0, 0)) :: .row 89 5 aA ags.length cg (ags.flatMap Ag.cells) :: [.blk b7 (.cells [.int .i64 0].toArray 35 (0, 0))]) rfl rfl rfl F.ent102 (fun a w ha => (shortest_c rfl hok (butN_lt hok.1) ⟨hf, show (0 : Nat) < 64 by omega, show (0 : Nat) < 64 by omega⟩ (by omega) (by simp) ha).mono (fun e w' h => by obtain ⟨o, h1, h2, h3⟩ := h; exact ⟨o, h1, h2, h3⟩)) ?_
      intro o2 hfo2
      dsimp only
      refine lst_move rfl rfl ?_
      refine lst_extract rfl rfl rfl ?_
      refine lst_extract rfl rfl rfl ?_
      refine lst_assign rfl rfl ?_
      refine lst_assign rfl rfl ?_
      refine lst_nil ?_
      refine ex_then ?_
      refine cod_seq ?_
      refine cod_region ?_
      refine lst_move rfl rfl ?_
      refine lst_not rfl rfl ?_
      refine lst_nil ?_
      refine ex_then ?_
      refine cod_cond_bool rfl (fun hc2 => ?_) (fun hc2 => ?_)
      · skip
        refine cod_region ?_
        refine lst_move rfl rfl ?_
        refine lst_move rfl rfl ?_
        refine lst_lit (vs := [(0, _)]) rfl rfl Tryd.underlying25 F.ti3 rfl rfl rfl ?_
        intro b56
        refine lst_append rfl rfl rfl Tryd.underlying25 F.ti3 rfl rfl rfl (by have := fltP_len (fun i => ¬ Clr ags (butN ags.length i) p f) (List.range k); rw [List.length_range] at this; unfold needL maxLen; omega) (by have := fltP_len (fun i => ¬ Clr ags (butN ags.length i) p f) (List.range k); rw [List.length_range] at this; unfold needL; omega) ?_
        intro A2 c2
        refine lst_assign rfl rfl ?_
        refine lst_nil ?_
        refine ex_block_normal ?_
        refine ex_then ?_
        refine cod_region ?_
        refine lst_int rfl rfl rfl (fun w => bin_add w (wrap_i64' _ (by omega) (by omega))) ?_
        refine lst_move rfl rfl ?_
        refine lst_nil ?_
        have e : needL ags p f (k + 1) = needL ags p f k ++ [k] := by unfold needL; rw [List.range_succ]; exact fltP_yes (fun h => by rw [(short_spec hfo2).1.2 h] at hc2; cases hc2)
        refine ex_round (k + 1, A2, c2) (by (try dsimp only); omega) (by (try dsimp only); omega) (by (try dsimp only); (try rw [e]); simp only [List.length_append, List.length_singleton]; repeat (first | exact Sub.nil _ | refine Sub.cons rfl ?_)) (by (try dsimp only); (try rw [e]); simp only [ints_snoc, List.length_append, List.length_singleton]; repeat (first | exact List.Sublist.refl _ | exact List.nil_sublist _ | refine List.Sublist.cons_cons _ ?_ | refine List.Sublist.cons _ ?_))
      · skip
        refine cod_skip ?_
        refine ex_block_normal ?_
        refine ex_then ?_
        refine cod_region ?_
        refine lst_int rfl rfl rfl (fun w => bin_add w (wrap_i64' _ (by omega) (by omega))) ?_
        refine lst_move rfl rfl ?_
        refine lst_nil ?_
        have e : needL ags p f (k + 1) = needL ags p f k := by unfold needL; rw [List.range_succ]; exact fltP_no (fun h => h ((short_spec hfo2).1.1 (by simpa using hc2)))
        refine ex_round (k + 1, A1, c1) (by (try dsimp only); omega) (by (try dsimp only); omega) (by (try dsimp only); (try rw [e]); repeat (first | exact Sub.nil _ | refine Sub.cons rfl ?_)) (by (try dsimp only); (try rw [e]); repeat (first | exact List.Sublist.refl _ | exact List.nil_sublist _ | refine List.Sublist.cons_cons _ ?_ | refine List.Sublist.cons _ ?_))
    · skip
      refine cod_exit ?_
      refine ex_then_exit ?_
      refine ex_then_exit ?_
      refine ex_block_exit ?_
      refine ex_then ?_
      refine cod_seq ?_
      refine cod_region ?_
      refine lst_move rfl rfl ?_
      refine lst_assign rfl rfl ?_
      refine lst_store rfl rfl F.ti35 rfl ?_
      refine lst_nil ?_
      refine ex_then ?_
      refine cod_ret ?_
      obtain rfl : k = ags.length := by omega
      exact ex_ret_caught (fun a w ha => ⟨_, res_tc (fn := Tryd.f55) ha rfl rfl rfl F.one35, _, 0, A1, c1, .inl ⟨rfl, hclr, rfl⟩, rfl, ha.grown sbl⟩)

theorem Spoils_ok (A : Option Addr) (c : Nat) (ags : List Ag) (hok : Oks ags) (f p : Nat) (hf : f < 64) (hp : p < 64) (w : World) (hA : RdL Ag.cells 5 w A ags) : Calls Tryd.prog 57 #[.slice A ags.length c, .int .i64 (f : Int), .int .i64 (p : Int)] w fun e w' => ∃ (L : List Nat) (E : Nat) (A' : Option Addr) (c' : Nat), (E = 0 ∧ Clr ags (usedAll ags.length) p f ∧ L = spoilL ags p f (canTo ags (usedAll ags.length) f ags.length) ∨ E = 11 ∧ ¬ Clr ags (usedAll ags.length) p f ∧ L = []) ∧ e = .returned (.tuple #[.slice A' L.length c', .int .i64 (E : Int)]) ∧ Grew w w' [.row 3 1 A' L.length c' (ints L)] := by
  have hua : usedAll ags.length < 256 := by have := usedAll_lt hok.1; omega
  refine enter_defers (N := 51) [(0, .slice A ags.length c), (1, .int .i64 (f : Int)), (2, .int .i64 (p : Int))] Tryd.func57 rfl Tryd.ntmps57 rfl rfl ?_
  refine cod_seq ?_
  refine cod_region ?_
  refine lst_assign rfl rfl ?_
  refine lst_alloc rfl F.ti35 ?_
  intro b7
  refine lst_nil ?_
  refine ex_then ?_
  refine cod_seq ?_
  refine cod_region ?_
  refine lst_defer (first := []) (cap := []) (vs := [_]) rfl rfl ?_
  refine lst_nil ?_
  refine ex_then ?_
  refine cod_seq ?_
  refine cod_region ?_
  refine lst_move rfl rfl ?_
  refine lst_fn (X := Option Addr × Nat) (vs := [_]) (p := fun _ => True) (val := fun x => .agg [.slice x.1 ags.length x.2, .int .u8 (usedAll ags.length : Nat)].toArray) (rs := fun x => [.row 89 5 x.1 ags.length x.2 (ags.flatMap Ag.cells)]) rfl rfl F.ent75 (fun a w ha => (begin_ok A c ags hok w (hA.later ha.below)).mono (fun e w' h => by obtain ⟨A', c', h1, h2⟩ := h; exact ⟨(A', c'), trivial, h1, h2⟩)) ?_
  rintro ⟨aA, cg⟩ -
  dsimp only [List.cons_append, List.nil_append]
  refine lst_know (φ := 0 < ags.length → ∃ g, aA = some ⟨g, 0, none⟩) (fun a w ha h => row_some (ha.own (.row 89 5 aA ags.length cg (ags.flatMap Ag.cells)) (by simp)) h) (fun hsome => ?_)
  refine lst_alloc rfl F.ti75 ?_
  intro b8
  refine lst_store rfl rfl F.ti75 rfl ?_
  refine lst_nil ?_
  refine ex_then ?_
  refine cod_seq ?_
  refine cod_region ?_
  refine lst_move rfl rfl ?_
  refine lst_fn0 (vs := [_]) rfl rfl F.ent76 (fun a w ha => melt_ok f hf w) ?_
  refine lst_move rfl rfl ?_
  refine lst_fn0 (vs := [_]) rfl rfl F.ent76 (fun a w ha => melt_ok p hp w) ?_
  refine lst_assign rfl rfl ?_
  refine lst_assign rfl rfl ?_
  refine lst_nil ?_
  refine ex_then ?_
  refine cod_seq ?_
  refine cod_region ?_
  refine lst_loadN rfl rfl F.agg75 F.ti75 ?_
  refine lst_move rfl rfl ?_
  refine lst_call (X := Nat) (first := []) (cap := []) (vs := [_, _]) (p := fun n => SetN n (Clr ags (usedAll ags.length) p)) (val := fun n => .int .u64 (n : Int)) (rs := fun _ => .blk b8 (.cells [.slice aA ags.length cg, .int .u8 (usedAll ags.length : Nat)].toArray 75 (0, 0)) :: .row 89 5 aA ags.length cg (ags.flatMap Ag.cells) :: [.blk b7 (.cells [.int .i64 0].toArray 35 (0, 0))]) rfl rfl rfl F.ent100 (fun a w ha => (hopeful_c rfl hok hua hp (by simp) ha).mono (fun e w' h => h)) ?_
  intro n hset
  dsimp only at hset ⊢
  refine lst_assign rfl rfl ?_
  refine lst_nil ?_
  refine ex_then ?_
  refine cod_seq ?_
  refine cod_seq ?_
  refine cod_region ?_
  refine lst_move rfl rfl ?_
  refine lst_move rfl rfl ?_
  refine lst_fn0 (vs := [_, _]) rfl rfl F.ent104 (fun a w ha => mhas_c n f hset.1 w) ?_
  refine lst_not rfl rfl ?_
  refine lst_nil ?_
  refine ex_then ?_
  refine cod_cond_bool rfl (fun hc0 => ?_) (fun hc0 => ?_)
  · skip
    refine cod_seq ?_
    refine cod_region ?_
    refine lst_assign rfl rfl ?_
    refine lst_store rfl rfl F.ti35 rfl ?_
    refine lst_nil ?_
    refine ex_then ?_
    refine cod_ret ?_
    refine ex_then_ret ?_
    exact ex_ret_caught (fun a w ha => ⟨_, res_tc (fn := Tryd.f57) ha rfl rfl rfl F.one35, [], 11, none, 0, .inr ⟨rfl, (fun h => by rw [(hset.2 f hf).2 h] at hc0; exact Bool.noConfusion hc0), rfl⟩, rfl, (ha.add_nil 3 1).grown sbl⟩)
  · skip
    refine cod_skip ?_
    refine ex_then ?_
    refine cod_seq ?_
    refine cod_seq ?_
    refine cod_region ?_
    refine lst_loadN rfl rfl F.agg75 F.ti75 ?_
    refine lst_move rfl rfl ?_
    refine lst_fn (X := Option Addr × Nat) (vs := [_, _]) (p := fun _ => True) (val := fun x => .slice x.1 (canTo ags (usedAll ags.length) f ags.length).length x.2) (rs := fun x => [.row 3 1 x.1 (canTo ags (usedAll ags.length) f ags.length).length x.2 (ints (canTo ags (usedAll ags.length) f ags.length))]) rfl rfl F.ent89 (fun a w ha => (can_c aA cg ags (usedAll ags.length) f hok hua (by omega) w (row_reads ha (cells := Ag.cells) (e := 89) (c := cg) (n := ags.length) (fun _ => rfl) (by simp) rfl)).mono (fun e w' h => by obtain ⟨A', c', h1, h2⟩ := h; exact ⟨(A', c'), trivial, h1, h2⟩)) ?_
    rintro ⟨cA, cc⟩ -
    dsimp only [List.cons_append, List.nil_append]
    refine lst_len rfl rfl Tryd.underlying25 ?_
    refine lst_move rfl rfl ?_
    refine lst_nil ?_
    refine ex_then ?_
    refine cod_block ?_
    have hclr := (hset.2 f hf).1 (by simpa using hc0)
    refine cod_nil 3 1 ?_
    refine cod_loop (G := Nat × Option Addr × Nat) (fun g => g.1 ≤ (canTo ags (usedAll ags.length) f ags.length).length) (fun g => (canTo ags (usedAll ags.length) f ags.length).length - g.1) (fun g => [(6, .slice g.2.1 (spoilL ags p f ((canTo ags (usedAll ags.length) f ags.length).take g.1)).length g.2.2), (7, .pointer (some ⟨b7, 0, none⟩)), (8, .pointer (some ⟨b8, 0, none⟩)), (9, .int .u8 (f : Int)), (10, .int .u8 (p : Int)), (11, .int .u64 (n : Int)), (29, .slice cA (canTo ags (usedAll ags.length) f ags.length).length cc), (30, .int .i64 ((canTo ags (usedAll ags.length) f ags.length).length : Int)), (31, .int .i64 (g.1 : Int))]) (fun g => .row 3 1 g.2.1 (spoilL ags p f ((canTo ags (usedAll ags.length) f ags.length).take g.1)).length g.2.2 (ints (spoilL ags p f ((canTo ags (usedAll ags.length) f ags.length).take g.1))) :: .row 3 1 cA (canTo ags (usedAll ags.length) f ags.length).length cc (ints (canTo ags (usedAll ags.length) f ags.length)) :: .blk b8 (.cells [.slice aA ags.length cg, .int .u8 (usedAll ags.length : Nat)].toArray 75 (0, 0)) :: .row 89 5 aA ags.length cg (ags.flatMap Ag.cells) :: [.blk b7 (.cells [.int .i64 0].toArray 35 (0, 0))]) (0, none, 0) (Nat.zero_le _) sbn sbl ?_
    rintro ⟨k, A1, c1⟩ hk
    (try dsimp only at hk ⊢)
    refine cod_seq ?_
    refine cod_region ?_
    refine lst_int rfl rfl rfl bin_lss ?_
    refine lst_nil ?_
    refine ex_then ?_
    refine cod_seq ?_
    refine cod_cond_dec rfl (fun hc1 => ?_) (fun hc1 => ?_)
    · skip
      have ht' : k < (canTo ags (usedAll ags.length) f ags.length).length := by omega
      obtain ⟨i, hci⟩ : ∃ i, (canTo ags (usedAll ags.length) f ags.length)[k]? = some i := ⟨_, List.getElem?_eq_getElem ht'⟩
      obtain ⟨hi', _, _⟩ := canTo_mem (List.mem_of_getElem? hci)
      have hol := hok.1
      obtain ⟨gA, hgA⟩ : ∃ g, aA = some ⟨g, 0, none⟩ := hsome (by omega)
      subst hgA
      obtain ⟨x, hx⟩ : ∃ x, ags[i]? = some x := ⟨_, List.getElem?_eq_getElem hi'⟩
      have hxo : x.ok := hok.2 x (List.mem_of_getElem? hx)
      have hxd : ags.getD i default = x := by rw [List.getD_eq_getElem?_getD, hx]; rfl
      have hcl := canTo_len ags (usedAll ags.length) f ags.length
      have hsl : (spoilL ags p f ((canTo ags (usedAll ags.length) f ags.length).take k)).length ≤ 4 := by have := fltP_len (fun i => ¬ Clr ags (usedAll ags.length) p (putN (ags.getD i default) f)) ((canTo ags (usedAll ags.length) f ags.length).take k); rw [List.length_take] at this; unfold spoilL; omega
      refine cod_skip ?_
      refine ex_then ?_
      refine cod_seq ?_
      refine cod_block ?_
      refine cod_seq ?_
      refine cod_region ?_
      refine lst_index_row (j := k) rfl rfl rfl Tryd.underlying25 F.ti3 rfl ht' rfl rfl ?_
      intro gC hgC
      refine lst_load_row (v := .int .i64 (i : Int)) rfl rfl F.one3 hgC (ints_get hci) ?_
      refine lst_assign rfl rfl ?_
      refine lst_nil ?_
      refine ex_then ?_
      refine cod_seq ?_
      refine cod_region ?_
      refine lst_move rfl rfl ?_
      refine lst_field_z rfl rfl F.fi75_0 F.ti72 ?_
      refine lst_load rfl rfl F.one72 ?_
      refine lst_move rfl rfl ?_
      refine lst_index (j := i) rfl rfl rfl Tryd.underlying72 F.ti89 rfl hi' ?_
      refine lst_loadN_at (l := [.int .i64 (x.needs : Int), .int .i64 (x.no : Int), .int .i64 (x.takes : Int), .int .i64 (x.leaves : Int), .int .i64 (x.cost : Int)]) rfl rfl F.agg89 F.ti89 rfl (fun a w ha j u hu => row_at ha (e := 89) (n := ags.length) (c := cg) (cells := Ag.cells) (by simp) (fun _ => rfl) hx hu) ?_
      refine lst_move rfl rfl ?_
      refine lst_fn0 (vs := [_, _]) rfl rfl F.ent91 (fun a w ha => put_c x f hxo (by omega) w) ?_
      refine lst_fn0 (vs := [_, _]) rfl rfl F.ent104 (fun a w ha => mhas_c n (putN x f) hset.1 w) ?_
      refine lst_not rfl rfl ?_
      refine lst_nil ?_
      refine ex_then ?_
      refine cod_cond_bool rfl (fun hc2 => ?_) (fun hc2 => ?_)
      · skip
        refine cod_region ?_
        refine lst_move rfl rfl ?_
        refine lst_move rfl rfl ?_
        refine lst_lit (vs := [(0, _)]) rfl rfl Tryd.underlying25 F.ti3 rfl rfl rfl ?_
        intro b47
        refine lst_append rfl rfl rfl Tryd.underlying25 F.ti3 rfl rfl rfl (by unfold maxLen; omega) (by omega) ?_
        intro A2 c2
        refine lst_assign rfl rfl ?_
        refine lst_nil ?_
        refine ex_block_normal ?_
        refine ex_then ?_
        refine cod_region ?_
        refine lst_int rfl rfl rfl (fun w => bin_add w (wrap_i64' _ (by omega) (by omega))) ?_
        refine lst_move rfl rfl ?_
        refine lst_nil ?_
        have e : spoilL ags p f ((canTo ags (usedAll ags.length) f ags.length).take (k + 1)) = spoilL ags p f ((canTo ags (usedAll ags.length) f ags.length).take k) ++ [i] := by rw [List.take_add_one, hci]; exact fltP_yes (fun h => by rw [hxd] at h; rw [(hset.2 _ (putN_lt hxo hf)).2 h] at hc2; cases hc2)
        refine ex_round (k + 1, A2, c2) (by (try dsimp only); omega) (by (try dsimp only); omega) (by (try dsimp only); (try rw [e]); simp only [List.length_append, List.length_singleton]; repeat (first | exact Sub.nil _ | refine Sub.cons rfl ?_)) (by (try dsimp only); (try rw [e]); simp only [ints_snoc, List.length_append, List.length_singleton]; repeat (first | exact List.Sublist.refl _ | exact List.nil_sublist _ | refine List.Sublist.cons_cons _ ?_ | refine List.Sublist.cons _ ?_))
      · skip
        refine cod_skip ?_
        refine ex_block_normal ?_
        refine ex_then ?_
        refine cod_region ?_
        refine lst_int rfl rfl rfl (fun w => bin_add w (wrap_i64' _ (by omega) (by omega))) ?_
        refine lst_move rfl rfl ?_
        refine lst_nil ?_
        have e : spoilL ags p f ((canTo ags (usedAll ags.length) f ags.length).take (k + 1)) = spoilL ags p f ((canTo ags (usedAll ags.length) f ags.length).take k) := by rw [List.take_add_one, hci]; exact fltP_no (fun h => h (by rw [hxd]; exact (hset.2 _ (putN_lt hxo hf)).1 (by simpa using hc2)))
        refine ex_round (k + 1, A1, c1) (by (try dsimp only); omega) (by (try dsimp only); omega) (by (try dsimp only); (try rw [e]); repeat (first | exact Sub.nil _ | refine Sub.cons rfl ?_)) (by (try dsimp only); (try rw [e]); repeat (first | exact List.Sublist.refl _ | exact List.nil_sublist _ | refine List.Sublist.cons_cons _ ?_ | refine List.Sublist.cons _ ?_))
    · skip
      obtain rfl : k = (canTo ags (usedAll ags.length) f ags.length).length := by omega
      rw [List.take_length]
      refine cod_exit ?_
      refine ex_then_exit ?_
      refine ex_then_exit ?_
      refine ex_block_exit ?_
      refine ex_then ?_
      refine cod_seq ?_
      refine cod_region ?_
      refine lst_move rfl rfl ?_
      refine lst_assign rfl rfl ?_
      refine lst_store rfl rfl F.ti35 rfl ?_
      refine lst_nil ?_
      refine ex_then ?_
      refine cod_ret ?_
      exact ex_ret_caught (fun a w ha => ⟨_, res_tc (fn := Tryd.f57) ha rfl rfl rfl F.one35, _, 0, A1, c1, .inl ⟨rfl, hclr, rfl⟩, rfl, ha.grown sbl⟩)

end Go.Proofs.YtofkhehcnfiopaaDoor.N
namespace Go.Proofs.YtofkhehcnfiopaaDoor.N
open Go Go.RowKit Go.Proofs
set_option linter.unusedSectionVars false
variable [I : Sys]
/-- What Shortest says. -/
structure ShS (ags : List Ag) (p f : Nat) (W : List Nat) (E : Nat) : Prop where
  yes : E = 0 → Clr ags (usedAll ags.length) p f ∧ (∃ c, Wy ags (usedAll ags.length) p f c W.length) ∧ ∀ c k, Wy ags (usedAll ags.length) p f c k → W.length ≤ k
  no : E ≠ 0 → E = 11 ∧ ¬ Clr ags (usedAll ags.length) p f ∧ W = []
theorem ShS.zero {ags : List Ag} {p f E : Nat} {W : List Nat} (h : ShS ags p f W E) (hc : Clr ags (usedAll ags.length) p f) : E = 0 := by
  by_cases hE : E = 0
  · exact hE
  · exact absurd hc (h.no hE).2.1
theorem ShS.iff {ags : List Ag} {p f E : Nat} {W : List Nat} (h : ShS ags p f W E) : E = 0 ↔ Clr ags (usedAll ags.length) p f := ⟨fun hE => (h.yes hE).1, h.zero⟩
end Go.Proofs.YtofkhehcnfiopaaDoor.N
namespace Go.Proofs.YtofkhehcnfiopaaDoor.N
open Go Go.RowKit Go.Proofs
set_option linter.unusedSectionVars false
variable [I : Sys]
theorem F.ent55 : Enters Tryd.prog 55 := enters_of Tryd.func55 rfl (by kernel_rfl)
theorem F.ent57 : Enters Tryd.prog 57 := enters_of Tryd.func57 rfl (by kernel_rfl)
end Go.Proofs.YtofkhehcnfiopaaDoor.N
namespace Go.Proofs.YtofkhehcnfiopaaDoor.N
open Go Go.RowKit Go.Proofs Go.Conc
set_option autoImplicit false
set_option linter.unusedSectionVars false
/-- Whoever may call reach. -/
class Rea [I : Sys] where
  low : Nat
  reach : ∀ {ags : List Ag} {used f cg : Nat} {aA : Option Addr} {gl : List Nat} (_ : Oks ags) (_ : used < 256) (_ : f < 64) (w : World) (_ : low ≤ w.heap.size) (_ : w.output = Gst.enc ⟨0, [], []⟩)
    (_ : ∀ b ∈ gl, ∃ cs t, w.heap[b]? = some (.cells cs t (0, 0)) ∧ 0 < cs.size) (_ : 0 < ags.length → ∃ g, g ∈ gl ∧ aA = some ⟨g, 0, none⟩) (_ : RdL Ag.cells 5 w aA ags),
    Calls Tryd.prog 105 #[.agg [.slice aA ags.length cg, .int .u8 (used : Int)].toArray, .int .u8 (f : Int)] w fun e w' => ∃ m, SetN m (Rch ags used f) ∧ e = .returned (.int .u64 (m : Int)) ∧ Grew w w' []
instance rea_main (low : Nat) : @Rea (mSys Tryd.prog (Kf low)) := @Rea.mk (mSys Tryd.prog (Kf low)) low fun h1 h2 h3 w h4 h5 h6 h7 h8 => reach_c h1 h2 h3 w h4 h5 h6 h7 h8
/-- The world in which it may be called. -/
def Rdy [I : Sys] [R : Rea] (w : World) : Prop := R.low ≤ w.heap.size ∧ w.output = Gst.enc ⟨0, [], []⟩
variable [I : Sys] [R : Rea]
theorem Rdy.later {w w' : World} {B : Nat} (h : Rdy w) (hb : Below B w w') : Rdy w' := ⟨Nat.le_trans h.1 hb.size, hb.output.trans h.2⟩
theorem reach_in {C : Ctx} {fr : List (Nat × Value)} {T : List Res} {a : Act} {w : World} (hC : C.P = Tryd.prog) {ags : List Ag} {used f cg : Nat} {aA : Option Addr} (hok : Oks ags) (hu : used < 256) (hf : f < 64) (hR : Rdy C.w0) (hAg : Res.row 89 5 aA ags.length cg (ags.flatMap Ag.cells) ∈ T) (ha : At C fr T a w) :
    Calls C.P 105 #[.agg [.slice aA ags.length cg, .int .u8 (used : Int)].toArray, .int .u8 (f : Int)] w fun e w' => ∃ m, SetN m (Rch ags used f) ∧ e = .returned (.int .u64 (m : Int)) ∧ Grew w w' [] := by
  obtain ⟨P, B, w0, N0, ds⟩ := C
  obtain rfl : P = Tryd.prog := hC
  have hR' := hR.later ha.below
  have hrd := row_reads ha (cells := Ag.cells) (e := 89) (c := cg) (n := ags.length) (l := ags) (fun _ => rfl) hAg rfl
  have hown := ha.own _ hAg
  by_cases hl : 0 < ags.length
  · obtain ⟨hx, h2 | ⟨g, cap, cur, hv, hg, hh, hc, hm, hs, ht⟩⟩ := hown
    · omega
    · cases hv
      refine R.reach (gl := [g]) hok hu hf w hR'.1 hR'.2 (fun b hb => ?_) (fun _ => ⟨g, by simp, rfl⟩) hrd
      simp at hb
      subst hb
      exact ⟨cur, 89, hh, by rw [hs]; omega⟩
  · exact R.reach (gl := []) hok hu hf w hR'.1 hR'.2 (fun b hb => by cases hb) (fun h => absurd h hl) hrd
/-- All that a melt can become, in order. -/
noncomputable def rchL (ags : List Ag) (f : Nat) : List Nat := fltP (Rch ags (usedAll ags.length) f) (List.range 64)
theorem rchL_mem {ags : List Ag} (hok : Oks ags) {f : Nat} (hf : f < 64) {y : Nat} : y ∈ rchL ags f ↔ Rch ags (usedAll ags.length) f y := by
  unfold rchL
  rw [fltP_mem, List.mem_range]
  exact ⟨fun h => h.2, fun h => ⟨h.lt hok hf, h⟩⟩
end Go.Proofs.YtofkhehcnfiopaaDoor.N
namespace Go.Proofs.YtofkhehcnfiopaaDoor.N
open Go Go.RowKit Go.Proofs
set_option linter.unusedSectionVars false
variable [I : Sys]
theorem ChS.mono {ags ms : List Ag} {p q f c c' E' : Nat} {W W' : List Nat} (hu : ∀ x ∈ ags, x ∈ ms) (hp : ∀ f, nn f p = 0 → nn f q = 0) (h : ChS ags p f W c 0) (h' : ChS ms q f W' c' E') : E' = 0 ∧ c' ≤ c := by
  have hw := (h.yes rfl).1.1.mono (ags' := ms) (used' := usedAll ms.length) (fun x hx => us_all.2 (hu x (us_all.1 hx))) hp
  by_cases hE : E' = 0
  · have := (h'.yes hE).1.2 _ _ hw
    unfold lexle at this
    exact ⟨hE, by omega⟩
  · exact absurd hw ((h'.no hE).2.2.2 _ _)
end Go.Proofs.YtofkhehcnfiopaaDoor.N
namespace Go.Proofs.YtofkhehcnfiopaaDoor.N
open Go Go.RowKit Go.Proofs
set_option linter.unusedSectionVars false
variable [I : Sys]
theorem F.ent51 : Enters Tryd.prog 51 := enters_of Tryd.func51 rfl (by kernel_rfl)
end Go.Proofs.YtofkhehcnfiopaaDoor.N
namespace Go.Proofs.YtofkhehcnfiopaaDoor.N
open Go Go.RowKit Go.Proofs
set_option linter.unusedSectionVars false
variable [I : Sys]
/-- No number twice. -/
def Inj (n : Nat) (l : List Nat) : Prop := l.length = n ∧ (∀ (a x : Nat), l[a]? = some x → x < n) ∧ ∀ (a b x : Nat), l[a]? = some x → l[b]? = some x → a = b
theorem Inj.range (n : Nat) : Inj n (List.range n) := by
  refine ⟨List.length_range, fun a x h => ?_, fun a b x h h' => ?_⟩
  · have := List.mem_range.1 (List.mem_of_getElem? h)
    exact this
  · obtain ⟨h1, e1⟩ := List.getElem?_eq_some_iff.1 h
    obtain ⟨h2, e2⟩ := List.getElem?_eq_some_iff.1 h'
    simp at e1 e2
    omega
theorem Inj.swap {n : Nat} {l : List Nat} (h : Inj n l) {i j x y : Nat} (hx : l[i]? = some x) (hy : l[j]? = some y) : Inj n ((l.set i y).set j x) := by
  obtain ⟨h1, h2, h3⟩ := h
  obtain ⟨hi, _⟩ := List.getElem?_eq_some_iff.1 hx
  obtain ⟨hj, _⟩ := List.getElem?_eq_some_iff.1 hy
  have key : ∀ (a z : Nat), ((l.set i y).set j x)[a]? = some z → l[if a = j then i else if a = i then j else a]? = some z := by
    intro a z hz
    rw [List.getElem?_set, List.length_set] at hz
    by_cases e1 : j = a
    · subst e1
      rw [if_pos rfl, if_pos hj] at hz
      rw [if_pos rfl, hx]
      exact hz
    · rw [if_neg e1, List.getElem?_set] at hz
      rw [if_neg (fun e => e1 e.symm)]
      by_cases e2 : i = a
      · subst e2
        rw [if_pos rfl, if_pos hi] at hz
        rw [if_pos rfl, hy]
        exact hz
      · rw [if_neg e2] at hz
        rw [if_neg (fun e => e2 e.symm)]
        exact hz
  refine ⟨by simp [h1], fun a z hz => h2 _ z (key a z hz), fun a b z ha hb => ?_⟩
  have := h3 _ _ z (key a z ha) (key b z hb)
  clear key h2 h3 ha hb hx hy
  revert this
  repeat' split
  all_goals omega
/-! Agents under other numbers. -/
theorem set_mem {l : List Ag} {o : Nat} {x y : Ag} (h : y ∈ l.set o x) : y ∈ l ∨ y = x := List.mem_or_eq_of_mem_set h
def Same (al bs : List Ag) : Prop := ∀ x, x ∈ al ↔ x ∈ bs
theorem Same.sym {al bs : List Ag} (h : Same al bs) : Same bs al := fun x => (h x).symm
theorem Same.clr {al bs : List Ag} (h : Same al bs) {p f : Nat} : Clr al (usedAll al.length) p f ↔ Clr bs (usedAll bs.length) p f :=
  ⟨Clr.mono (fun x hx => us_all.2 ((h x).1 (us_all.1 hx))) (fun _ h => h), Clr.mono (fun x hx => us_all.2 ((h x).2 (us_all.1 hx))) (fun _ h => h)⟩
theorem Same.wy {al bs : List Ag} (h : Same al bs) {p f c k : Nat} (hw : Wy al (usedAll al.length) p f c k) : Wy bs (usedAll bs.length) p f c k := hw.mono (fun x hx => us_all.2 ((h x).1 (us_all.1 hx))) (fun _ h => h)
theorem Same.short {al bs : List Ag} (h : Same al bs) {p f E E' : Nat} {W W' : List Nat} (h1 : ShS al p f W E) (h2 : ShS bs p f W' E') : E = E' ∧ W.length = W'.length := by
  by_cases hc : Clr al (usedAll al.length) p f
  · have e1 := h1.zero hc
    have e2 := h2.zero (h.clr.1 hc)
    obtain ⟨_, ⟨c1, w1⟩, m1⟩ := h1.yes e1
    obtain ⟨_, ⟨c2, w2⟩, m2⟩ := h2.yes e2
    exact ⟨by omega, Nat.le_antisymm (m1 _ _ (h.sym.wy w2)) (m2 _ _ (h.wy w1))⟩
  · have e1 := h1.no (fun e => hc (h1.iff.1 e))
    have e2 := h2.no (fun e => hc (h.clr.2 (h2.iff.1 e)))
    rw [e1.1, e2.1, e1.2.2, e2.2.2]
    exact ⟨rfl, rfl⟩
theorem Same.found {al bs : List Ag} (h : Same al bs) {p f : Nat} {o o' : Option Wk} (h1 : FoundO al (usedAll al.length) 1 (-1) (f, 0, 0) (fun t => decide (nn t.1 p = 0)) o) (h2 : FoundO bs (usedAll bs.length) 1 (-1) (f, 0, 0) (fun t => decide (nn t.1 p = 0)) o') : o.isSome = o'.isSome ∧ (wayO o).how.length = (wayO o').how.length := by
  obtain ⟨a1, a2, a3⟩ := short_spec h1
  obtain ⟨b1, b2, b3⟩ := short_spec h2
  have hi : o.isSome = true ↔ o'.isSome = true := a1.trans (h.clr.trans b1.symm)
  cases o with
  | none =>
    cases o' with
    | none => exact ⟨rfl, rfl⟩
    | some k => exact absurd (hi.2 rfl) (by simp)
  | some k =>
    cases o' with
    | none => exact absurd (hi.1 rfl) (by simp)
    | some k' =>
      refine ⟨rfl, ?_⟩
      obtain ⟨c1, w1⟩ := a2.resolve_right (by simp)
      obtain ⟨c2, w2⟩ := b2.resolve_right (by simp)
      exact Nat.le_antisymm ((a3.resolve_left (by simp)) _ _ (h.sym.wy w2)) ((b3.resolve_left (by simp)) _ _ (h.wy w1))
/-- What is known while agents get other numbers. -/
structure Ren (al os : List Ag) (l : List Nat) (i : Nat) : Prop where
  len : os.length = al.length
  sub : ∀ x ∈ os, x ∈ al
  done : ∀ (j q : Nat), j < i → l[j]? = some q → os[q]? = al[j]?
theorem Ren.zero (al : List Ag) (l : List Nat) : Ren al al l 0 := ⟨rfl, fun _ h => h, fun _ _ h => absurd h (by omega)⟩
theorem Ren.step {al os : List Ag} {l : List Nat} {i q : Nat} {x : Ag} (h : Ren al os l i) (hl : Inj al.length l) (hq : l[i]? = some q) (hx : al[i]? = some x) : Ren al (os.set q x) l (i + 1) := by
  have hql := hl.2.1 _ _ hq
  refine ⟨by rw [List.length_set]; exact h.len, fun y hy => ?_, fun j r hj hr => ?_⟩
  · rcases set_mem hy with h1 | h1
    · exact h.sub y h1
    · rw [h1]; exact List.mem_of_getElem? hx
  · rw [List.getElem?_set]
    by_cases e : q = r
    · subst e
      obtain rfl := hl.2.2 _ _ _ hq hr
      rw [if_pos rfl, if_pos (by rw [h.len]; exact hql), hx]
    · rw [if_neg e]
      have : j ≠ i := fun e' => by subst e'; rw [hq] at hr; exact e (Option.some.inj hr)
      exact h.done j r (by omega) hr
theorem Ren.same {al os : List Ag} {l : List Nat} (h : Ren al os l al.length) (hl : Inj al.length l) : Same al os := by
  intro x
  constructor
  · intro hx
    obtain ⟨j, hj, rfl⟩ := List.getElem_of_mem hx
    have hjl : j < l.length := by rw [hl.1]; exact hj
    have := h.done j _ hj (List.getElem?_eq_getElem hjl)
    rw [List.getElem?_eq_getElem hj] at this
    exact List.mem_of_getElem? this
  · exact h.sub x
end Go.Proofs.YtofkhehcnfiopaaDoor.N
namespace Go.Proofs.YtofkhehcnfiopaaDoor.N
open Go Go.RowKit Go.Proofs
set_option linter.unusedSectionVars false
/-! Calls of the model's own functions, on views. -/
/-- A tree that asks for the program alone. -/
def Pur {α : Type} (P : Program) (a : α) : Sem α → Prop
  | .pure b => b = a
  | .program k => Pur P a (k P)
  | _ => False
theorem Tame.pur {α β : Type} {P : Program} {s : Sem α} {a : α} {f : α → Sem β} (hs : Pur P a s) (hf : Tame P (f a)) : Tame P (s >>= f) := by
  show Tame P (s.bind f)
  induction s with
  | pure b =>
    obtain rfl : b = a := hs
    exact hf
  | program k ih => exact ih P hs
  | _ => exact hs.elim
theorem Pur.tame {α : Type} {P : Program} {s : Sem α} {a : α} (hs : Pur P a s) : Tame P s := by
  induction s with
  | pure b => trivial
  | program k ih => exact ih P hs
  | _ => exact hs.elim
theorem tame_ext {P : Program} {f : FuncId} {fn : Func} {e : Array Value → Sem Value} (hf : P.funcs[f]? = some fn) (hname : (fn.name == "runtime.NumGoroutine") = false)
    (hb : fn.body.isNone = true) (hn : Extern.findNext fn = none) (he : Extern.find fn = some e) {args : Array Value} (h : Tame P (e args)) : Tame P (callFunc f args) := by
  have h1 : fn.name ≠ "runtime.NumGoroutine" := by simpa using hname
  have h2 : fn.body = none := by simpa using hb
  have e1 : callFunc f args = program >>= fun P' => (match P'.funcs[f]? with
      | none => stuck "call: no such function"
      | some fn =>
        if fn.name == "runtime.NumGoroutine" then pure .numGoroutine
        else if fn.body.isNone then do
          mark (.extern f)
          if let some e := Extern.findNext fn then return ← e args
          match Extern.find fn with
          | some e => pure (.value (← e args))
          | none =>
            if fn.name.endsWith ".init" && !fn.name.startsWith "(" && !fn.name.startsWith "gosem." then pure (.value (.tuple #[]))
            else unsupported (.extern fn.name)
        else pure (.enter f args)) := rfl
  rw [e1]
  show Tame P (match P.funcs[f]? with
      | none => stuck "call: no such function"
      | some fn => _)
  rw [hf]
  simp only [hname, hb, hn, he]
  exact ⟨trivial, Tame.bind (s := e args) h fun _ => trivial⟩
section
variable [I : Sys]
variable {C : Ctx} {fr : List (Nat × Value)} {hp hp' : List Res} {ops : Array Oper} {Q : Exit → Act → World → Prop} {rest : List Oper} {d : Nat} {ty : TypeId} {pos : String} {after : Array Edge}
/-- A call of one of the model's own functions. -/
theorem lst_prim {X : Type} {x : Operand} {f : FuncId} {vs : List Value} {args : Array Operand} {ts : Array TypeId} {val : X → Value} {rs : X → List Res} (hd : Nat.blt d C.N = true)
    (hx : ev fr x = some (.func (.func f) #[] #[])) (hargs : args.toList.map (ev fr) = vs.map some) (ht : Tame C.P (callFunc f vs.toArray))
    (h : ∀ a w, At C fr hp a w → ∃ y w', (callFunc f vs.toArray).run C.P w = .ok (.value (val y)) w' ∧ At C fr (rs y) a w')
    (k : ∀ y, Lst C ops Q rest ((d, val y) :: fr) (rs y)) : Lst C ops Q (⟨some d, .call { callee := .value x, args := args, argTypes := ts }, ty, pos, after, none⟩ :: rest) fr hp := by
  refine lst_of rfl fun a w ha => ?_
  obtain ⟨y, w', h1, h2⟩ := h a w ha
  have he : execOp a.eval ⟨some d, .call { callee := .value x, args := args, argTypes := ts }, ty, pos, after, none⟩ = callFunc f vs.toArray := by
    simp only [execOp, resolve, ev_args ha hargs, ha.eval hx, Deferred.ofValue]
    simp [invoke]
  refine ⟨by rw [he]; exact ht, ?_⟩
  rw [he, h1]
  exact k y _ _ (h2.put (lt_of_blt hd) _)
/-- A method of one of the model's own types, called by an interface. -/
theorem lst_method {x : Operand} {name : String} {t f : Nat} {rv rcv v : Value} {vs : List Value} {args : Array Operand} {ts : Array TypeId} (hd : Nat.blt d C.N = true)
    (hx : ev fr x = some (.iface t rv)) (hargs : args.toList.map (ev fr) = vs.map some)
    (hmt : Pur C.P (f, rcv) (Go.method (C.P.types.size + Made.depth) t rv name)) (ht : Tame C.P (callFunc f (#[rcv] ++ vs.toArray)))
    (hm : ∀ w, (Go.method (C.P.types.size + Made.depth) t rv name).run C.P w = .ok (f, rcv) w)
    (h : ∀ w, (callFunc f (#[rcv] ++ vs.toArray)).run C.P w = .ok (.value v) w)
    (k : Lst C ops Q rest ((d, v) :: fr) hp) : Lst C ops Q (⟨some d, .call { callee := .invoke x name, args := args, argTypes := ts }, ty, pos, after, none⟩ :: rest) fr hp := by
  have e1 : (#[Value.iface t rv] ++ vs.toArray)[0]? = some (.iface t rv) := by simp
  have e2 : (#[Value.iface t rv] ++ vs.toArray).extract 1 (#[Value.iface t rv] ++ vs.toArray).size = vs.toArray := by simp
  have hp9 : ∀ w, (program : Sem Program).run C.P w = .ok C.P w := fun _ => rfl
  refine lst_value _ hd (fun a w ha => ?_) (fun a w ha => ⟨w, ?_, ha⟩) k
  · have he : execOp a.eval ⟨some d, .call { callee := .invoke x name, args := args, argTypes := ts }, ty, pos, after, none⟩ = callMethod (.iface t rv) name vs.toArray := by
      simp only [execOp, resolve, ev_args ha hargs, ha.eval hx]
      show (match (#[Value.iface t rv] ++ vs.toArray)[0]? with | some recv => callMethod recv name ((#[Value.iface t rv] ++ vs.toArray).extract 1 (#[Value.iface t rv] ++ vs.toArray).size) | _ => stuck "call: a method without a receiver") = _
      rw [e1, e2]
    rw [he]
    unfold callMethod
    exact Tame.pur (s := Go.method (C.P.types.size + Made.depth) t rv name) (a := (f, rcv)) hmt ht
  · simp only [execOp, resolve, ev_args ha hargs, ha.eval hx, Sem.run_bind, Sem.run_pure, Result.andThen_ok, invoke, e1, e2, callMethod, hp9, hm, h]
end
theorem run_call_ext {P : Program} {f : FuncId} {fn : Func} {e : Array Value → Sem Value} (hf : P.funcs[f]? = some fn) (hname : (fn.name == "runtime.NumGoroutine") = false)
    (hb : fn.body.isNone = true) (hn : Extern.findNext fn = none) (he : Extern.find fn = some e) {args : Array Value} {w w' : World} {v : Value} (h : (e args).run P w = .ok v w') : (callFunc f args).run P w = .ok (.value v) w' := by
  rw [run_callFunc_extern hf hname hb hn he, h]
  rfl
end Go.Proofs.YtofkhehcnfiopaaDoor.N
namespace Go.Proofs.YtofkhehcnfiopaaDoor.N
open Go Go.RowKit Go.Proofs Go.Extern.Stop Go.Stop Go.Extern
set_option linter.unusedSectionVars false
variable [I : Sys]
/-! Closed facts on the model's entries for reflectlite, at this program's types: 111: an error that is no way; 113: a pointer to it; 107: error; 166: reflectlite's own rows of types. -/
def hT (t : Nat) : Value := .pointer (some ⟨1, t, none⟩)
def iT (t : Nat) : Value := .iface 166 (.agg #[hT t])
def rv (t : Nat) (a : Addr) (fl : Int) : Value := .agg #[hT t, .pointer (some a), .int .u64 fl]
theorem As.valueOf113 (t : Addr) (w : World) : (ReflectliteValue.unpack (.iface 113 (.pointer (some t)))).run Tryd.prog w = .ok (rv 113 ⟨w.heap.size, 0, none⟩ 150) (w.alloc (.cells #[.pointer (some t)] 113)) := by kernel_rfl
theorem As.type113 (a : Addr) (w : World) : (ReflectliteValue.methodAny (ReflectliteValue.valueError "reflectlite.Value.Type" 0) (fun t _ _ _ => ReflectliteType.toType t) #[rv 113 a 150]).run Tryd.prog w = .ok (iT 113) w := by kernel_rfl
theorem As.methodKind (h : Value) (w : World) : (Go.method (Tryd.prog.types.size + Made.depth) 166 (.agg #[h]) "Kind").run Tryd.prog w = .ok (145, h) w := by kernel_rfl
theorem As.methodElem (h : Value) (w : World) : (Go.method (Tryd.prog.types.size + Made.depth) 166 (.agg #[h]) "Elem").run Tryd.prog w = .ok (156, .agg #[h]) w := by kernel_rfl
theorem As.methodImplements (h : Value) (w : World) : (Go.method (Tryd.prog.types.size + Made.depth) 166 (.agg #[h]) "Implements").run Tryd.prog w = .ok (157, .agg #[h]) w := by kernel_rfl
theorem As.methodAssignableTo (h : Value) (w : World) : (Go.method (Tryd.prog.types.size + Made.depth) 166 (.agg #[h]) "AssignableTo").run Tryd.prog w = .ok (154, .agg #[h]) w := by kernel_rfl
theorem As.kind113 (w : World) : ((ReflectliteType.abiMethod fun t => (fun a : Nat => Value.int IntKind.u8 (a : Int)) <$> Rtype.kind t) #[hT 113]).run Tryd.prog w = .ok (.int .u8 22) w := by kernel_rfl
theorem As.kind111 (w : World) : ((ReflectliteType.abiMethod fun t => (fun a : Nat => Value.int IntKind.u8 (a : Int)) <$> Rtype.kind t) #[hT 111]).run Tryd.prog w = .ok (.int .u8 25) w := by kernel_rfl
theorem As.rlm (z : Sem Value) (f : TypeId → Addr → Nat → Nat → Sem Value) (v : Value) :
    ReflectliteValue.method z f #[v] = (do match ← ReflectliteValue.parts v with | none => z | some (t, a, fl) => f t a fl (fl % 32)) := rfl
theorem As.parts113 (a : Addr) (w : World) : (ReflectliteValue.parts (rv 113 a 150)).run Tryd.prog w = .ok (some (113, a, 150)) w := by kernel_rfl
theorem As.isNil113 (a p : Addr) (W : World) (ha : W.cell? a = some (.pointer (some p))) :
    (ReflectliteValue.method (ReflectliteValue.valueError "reflectlite.Value.IsNil" 0) ReflectliteValue.isNil #[rv 113 a 150]).run Tryd.prog W = .ok (.bool false) W := by
  rw [As.rlm]
  simp only [Sem.run_bind, As.parts113, Result.andThen]
  simp [ReflectliteValue.isNil, loadVar, isAgg, underlying, Tryd.underlying113, ha, Result.andThen]
theorem As.elem113 (w : World) : (ReflectliteType.method ReflectliteType.elem #[.agg #[hT 113]]).run Tryd.prog w = .ok (iT 111) w := by kernel_rfl
theorem As.implements111 (w : World) : (ReflectliteType.relation "Implements" ReflectliteType.implements_ #[.agg #[hT 111], iT 107]).run Tryd.prog w = .ok (.bool true) w := by kernel_rfl
theorem As.typeOf111 (v : Value) (w : World) : (ReflectliteType.typeOf #[.iface 111 v]).run Tryd.prog w = .ok (iT 111) w := by kernel_rfl
theorem As.assignable111 (w : World) : (ReflectliteType.relation "AssignableTo" ReflectliteType.assignableTo #[.agg #[hT 111], iT 111]).run Tryd.prog w = .ok (.bool true) w := by kernel_rfl
theorem As.valueOf111 (x y : Int) (w : World) : (ReflectliteValue.unpack (.iface 111 (.agg #[.int .i64 x, .int .i64 y]))).run Tryd.prog w = .ok (rv 111 ⟨w.heap.size, 0, none⟩ 153) (w.alloc (.cells #[.int .i64 x, .int .i64 y] 111)) := by kernel_rfl
theorem As.elemOf113 (w : World) : (Rtype.elem? 113).run Tryd.prog w = .ok (some 111) w := by kernel_rfl
theorem As.mk111 (p : Addr) (w : World) : (ReflectliteValue.mk 111 p ReflectliteValue.flagAddr).run Tryd.prog w = .ok (rv 111 p 409) w := by kernel_rfl
theorem As.elemV113 (a p : Addr) (W : World) (ha : W.cell? a = some (.pointer (some p))) :
    (ReflectliteValue.method (ReflectliteValue.valueError "reflectlite.Value.Elem" 0) ReflectliteValue.elem #[rv 113 a 150]).run Tryd.prog W = .ok (rv 111 p 409) W := by
  rw [As.rlm]
  simp only [Sem.run_bind, As.parts113, Result.andThen]
  simp [ReflectliteValue.elem, loadVar, isAgg, underlying, Tryd.underlying113, ha, Result.andThen, As.elemOf113, As.mk111]
theorem As.rls (v x : Value) : ReflectliteValue.set #[v, x] = (do
    let (some (dst, a, fl), some (src, b, _)) := (← ReflectliteValue.parts v, ← ReflectliteValue.parts x)
      | unsupported (.noEntry "extern/(internal/reflectlite.Value).Set.zeroValue")
    if fl / ReflectliteValue.flagAddr % 2 == 0 then unsupported (.noEntry "extern/(internal/reflectlite.Value).Set.unaddressable")
    let val ← loadVar src b
    if ← Rtype.directlyAssignable dst src then storeVar dst a val
    else if ← Rtype.implements dst src then
      if (← Rtype.kind src) == 20 then
        match val with
        | .nilIface => unsupported (.noEntry "extern/reflectlite: a nil value of one interface type handed on as a value of another")
        | _ => storeVar dst a val
      else storeVar dst a (.iface src val)
    else panicString ("reflectlite.Set: value of type " ++ (← Rtype.spelt src) ++ " is not assignable to type " ++ (← Rtype.spelt dst))
    pure (.tuple #[])) := rfl
theorem As.parts111a (a : Addr) (w : World) : (ReflectliteValue.parts (rv 111 a 409)).run Tryd.prog w = .ok (some (111, a, 409)) w := by kernel_rfl
theorem As.parts111 (a : Addr) (w : World) : (ReflectliteValue.parts (rv 111 a 153)).run Tryd.prog w = .ok (some (111, a, 153)) w := by kernel_rfl
theorem As.direct111 (w : World) : (Rtype.directlyAssignable 111 111).run Tryd.prog w = .ok true w := by kernel_rfl
/-- The variable at t gets what the value's own variable holds. -/
theorem As.set111 (t b : Addr) (V : Value) (W W' : World) (hb : (loadVar 111 b).run Tryd.prog W = .ok V W) (hs : (storeVar 111 t V).run Tryd.prog W = .ok () W') :
    (ReflectliteValue.set #[rv 111 t 409, rv 111 b 153]).run Tryd.prog W = .ok (.tuple #[]) W' := by
  rw [As.rls]
  simp only [Sem.run_bind, As.parts111a, As.parts111, Result.andThen]
  simp [ReflectliteValue.flagAddr, hb, hs, Result.andThen, As.direct111]
/-! The calls themselves. -/
theorem As.c117 {args : Array Value} {w w' : World} {v : Value} (h : (ReflectliteValue.unpack (args.getD 0 (.tuple #[]))).run Tryd.prog w = .ok v w') : (callFunc 117 args).run Tryd.prog w = .ok (.value v) w' :=
  run_call_ext (e := fun args => ReflectliteValue.unpack (args.getD 0 (.tuple #[]))) Tryd.func117 (by kernel_rfl) (by kernel_rfl) (by kernel_rfl) (by kernel_rfl) h
theorem As.c118 {args : Array Value} {w w' : World} {v : Value} (h : (ReflectliteValue.methodAny (ReflectliteValue.valueError "reflectlite.Value.Type" 0) (fun t _ _ _ => ReflectliteType.toType t) args).run Tryd.prog w = .ok v w') : (callFunc 118 args).run Tryd.prog w = .ok (.value v) w' :=
  run_call_ext Tryd.func118 (by kernel_rfl) (by kernel_rfl) (by kernel_rfl) (by kernel_rfl) h
theorem As.c119 {args : Array Value} {w w' : World} {v : Value} (h : (ReflectliteValue.method (ReflectliteValue.valueError "reflectlite.Value.IsNil" 0) ReflectliteValue.isNil args).run Tryd.prog w = .ok v w') : (callFunc 119 args).run Tryd.prog w = .ok (.value v) w' :=
  run_call_ext Tryd.func119 (by kernel_rfl) (by kernel_rfl) (by kernel_rfl) (by kernel_rfl) h
theorem As.c145 {args : Array Value} {w w' : World} {v : Value} (h : ((ReflectliteType.abiMethod fun t => do pure (.int .u8 (← Rtype.kind t))) args).run Tryd.prog w = .ok v w') : (callFunc 145 args).run Tryd.prog w = .ok (.value v) w' :=
  run_call_ext Tryd.func145 (by kernel_rfl) (by kernel_rfl) (by kernel_rfl) (by kernel_rfl) h
theorem As.c156 {args : Array Value} {w w' : World} {v : Value} (h : (ReflectliteType.method ReflectliteType.elem args).run Tryd.prog w = .ok v w') : (callFunc 156 args).run Tryd.prog w = .ok (.value v) w' :=
  run_call_ext Tryd.func156 (by kernel_rfl) (by kernel_rfl) (by kernel_rfl) (by kernel_rfl) h
theorem As.c157 {args : Array Value} {w w' : World} {v : Value} (h : (ReflectliteType.relation "Implements" ReflectliteType.implements_ args).run Tryd.prog w = .ok v w') : (callFunc 157 args).run Tryd.prog w = .ok (.value v) w' :=
  run_call_ext Tryd.func157 (by kernel_rfl) (by kernel_rfl) (by kernel_rfl) (by kernel_rfl) h
theorem As.c128 {args : Array Value} {w w' : World} {v : Value} (h : (ReflectliteType.typeOf args).run Tryd.prog w = .ok v w') : (callFunc 128 args).run Tryd.prog w = .ok (.value v) w' :=
  run_call_ext Tryd.func128 (by kernel_rfl) (by kernel_rfl) (by kernel_rfl) (by kernel_rfl) h
theorem As.c154 {args : Array Value} {w w' : World} {v : Value} (h : (ReflectliteType.relation "AssignableTo" ReflectliteType.assignableTo args).run Tryd.prog w = .ok v w') : (callFunc 154 args).run Tryd.prog w = .ok (.value v) w' :=
  run_call_ext Tryd.func154 (by kernel_rfl) (by kernel_rfl) (by kernel_rfl) (by kernel_rfl) h
theorem As.c129 {args : Array Value} {w w' : World} {v : Value} (h : (ReflectliteValue.method (ReflectliteValue.valueError "reflectlite.Value.Elem" 0) ReflectliteValue.elem args).run Tryd.prog w = .ok v w') : (callFunc 129 args).run Tryd.prog w = .ok (.value v) w' :=
  run_call_ext Tryd.func129 (by kernel_rfl) (by kernel_rfl) (by kernel_rfl) (by kernel_rfl) h
theorem As.c130 {args : Array Value} {w w' : World} {v : Value} (h : (ReflectliteValue.set args).run Tryd.prog w = .ok v w') : (callFunc 130 args).run Tryd.prog w = .ok (.value v) w' :=
  run_call_ext Tryd.func130 (by kernel_rfl) (by kernel_rfl) (by kernel_rfl) (by kernel_rfl) h
end Go.Proofs.YtofkhehcnfiopaaDoor.N
namespace Go.Proofs.YtofkhehcnfiopaaDoor.N
open Go Go.RowKit Go.Proofs Go.Extern.Stop Go.Stop Go.Extern
set_option linter.unusedSectionVars false
set_option maxRecDepth 100000
variable [I : Sys]
/-! The model's entries for reflectlite do nothing that a view does not show. -/
def purOf {α : Type} (P : Program) : Sem α → Option α
  | .pure b => some b
  | .program k => purOf P (k P)
  | _ => none
theorem pur_of {α : Type} {P : Program} {a : α} {s : Sem α} (h : purOf P s = some a) : Pur P a s := by
  induction s with
  | pure b => exact Option.some.inj h
  | program k ih => exact ih P h
  | _ => simp [purOf] at h
theorem tame_cutType {P : Program} (n : String) : Tame P (cutType n) := Tame.bind tame_program fun p => by split <;> trivial
theorem tame_valueError {α : Type} {P : Program} (m : String) (k : Nat) : Tame P (ReflectliteValue.valueError m k : Sem α) :=
  Tame.bind (tame_cutType _) fun t => Tame.bind (tame_elemOf t) fun e => Tame.bind (tame_newVar _ _) fun _ => tame_goPanic _
theorem As.u117 {P : Program} {t : Nat} {v : Value} {r : Addr → Value} (h : ∀ a, Pur P (r a) (ReflectliteValue.mk t a 0)) : Tame P (ReflectliteValue.unpack (.iface t v)) := by
  show Tame P (newVar t v >>= fun a => ReflectliteValue.mk t a 0)
  exact Tame.bind (tame_newVar t v) fun a => (h a).tame
theorem As.m0_113 (a : Addr) : Pur Tryd.prog (rv 113 a 150) (ReflectliteValue.mk 113 a 0) := pur_of (by kernel_rfl)
theorem As.m0_111 (a : Addr) : Pur Tryd.prog (rv 111 a 153) (ReflectliteValue.mk 111 a 0) := pur_of (by kernel_rfl)
theorem As.T117 {args : Array Value} (h : Tame Tryd.prog (ReflectliteValue.unpack (args.getD 0 (.tuple #[])))) : Tame Tryd.prog (callFunc 117 args) :=
  tame_ext (e := fun args => ReflectliteValue.unpack (args.getD 0 (.tuple #[]))) Tryd.func117 (by kernel_rfl) (by kernel_rfl) (by kernel_rfl) (by kernel_rfl) h
theorem As.T117a (x : Addr) : Tame Tryd.prog (callFunc 117 [Value.iface 113 (.pointer (some x))].toArray) := As.T117 (As.u117 As.m0_113)
theorem As.T117b (x y : Int) : Tame Tryd.prog (callFunc 117 [Value.iface 111 (.agg [.int .i64 x, .int .i64 y].toArray)].toArray) := As.T117 (As.u117 As.m0_111)
theorem As.T118 (a : Addr) : Tame Tryd.prog (callFunc 118 [rv 113 a 150].toArray) :=
  tame_ext (e := ReflectliteValue.methodAny (ReflectliteValue.valueError "reflectlite.Value.Type" 0) (fun t _ _ _ => ReflectliteType.toType t)) Tryd.func118 (by kernel_rfl) (by kernel_rfl) (by kernel_rfl) (by kernel_rfl) (pur_of (a := iT 113) (by kernel_rfl)).tame
theorem As.T128 (v : Value) : Tame Tryd.prog (callFunc 128 [Value.iface 111 v].toArray) :=
  tame_ext (e := ReflectliteType.typeOf) Tryd.func128 (by kernel_rfl) (by kernel_rfl) (by kernel_rfl) (by kernel_rfl) (pur_of (a := iT 111) (by kernel_rfl)).tame
theorem As.T145a : Tame Tryd.prog (callFunc 145 (#[hT 113] ++ ([] : List Value).toArray)) :=
  tame_ext (e := ReflectliteType.abiMethod fun t => do pure (.int .u8 (← Rtype.kind t))) Tryd.func145 (by kernel_rfl) (by kernel_rfl) (by kernel_rfl) (by kernel_rfl) (pur_of (a := .int .u8 22) (by kernel_rfl)).tame
theorem As.T145b : Tame Tryd.prog (callFunc 145 (#[hT 111] ++ ([] : List Value).toArray)) :=
  tame_ext (e := ReflectliteType.abiMethod fun t => do pure (.int .u8 (← Rtype.kind t))) Tryd.func145 (by kernel_rfl) (by kernel_rfl) (by kernel_rfl) (by kernel_rfl) (pur_of (a := .int .u8 25) (by kernel_rfl)).tame
theorem As.T156 : Tame Tryd.prog (callFunc 156 (#[Value.agg #[hT 113]] ++ ([] : List Value).toArray)) :=
  tame_ext (e := ReflectliteType.method ReflectliteType.elem) Tryd.func156 (by kernel_rfl) (by kernel_rfl) (by kernel_rfl) (by kernel_rfl) (pur_of (a := iT 111) (by kernel_rfl)).tame
theorem As.T157 : Tame Tryd.prog (callFunc 157 (#[Value.agg #[hT 111]] ++ [iT 107].toArray)) :=
  tame_ext (e := ReflectliteType.relation "Implements" ReflectliteType.implements_) Tryd.func157 (by kernel_rfl) (by kernel_rfl) (by kernel_rfl) (by kernel_rfl) (pur_of (a := .bool true) (by kernel_rfl)).tame
theorem As.T154 : Tame Tryd.prog (callFunc 154 (#[Value.agg #[hT 111]] ++ [iT 111].toArray)) :=
  tame_ext (e := ReflectliteType.relation "AssignableTo" ReflectliteType.assignableTo) Tryd.func154 (by kernel_rfl) (by kernel_rfl) (by kernel_rfl) (by kernel_rfl) (pur_of (a := .bool true) (by kernel_rfl)).tame
/-! Which method it is. -/
theorem As.PKind (h : Value) : Pur Tryd.prog (145, h) (Go.method (Tryd.prog.types.size + Made.depth) 166 (.agg #[h]) "Kind") := pur_of (by kernel_rfl)
theorem As.PElem (h : Value) : Pur Tryd.prog (156, .agg #[h]) (Go.method (Tryd.prog.types.size + Made.depth) 166 (.agg #[h]) "Elem") := pur_of (by kernel_rfl)
theorem As.PImplements (h : Value) : Pur Tryd.prog (157, .agg #[h]) (Go.method (Tryd.prog.types.size + Made.depth) 166 (.agg #[h]) "Implements") := pur_of (by kernel_rfl)
theorem As.PAssignableTo (h : Value) : Pur Tryd.prog (154, .agg #[h]) (Go.method (Tryd.prog.types.size + Made.depth) 166 (.agg #[h]) "AssignableTo") := pur_of (by kernel_rfl)
/-! Those that read and write. -/
theorem As.t119 {P : Program} (t : Nat) (a : Addr) (fl : Nat) : Tame P (ReflectliteValue.isNil t a fl 22) := by
  unfold ReflectliteValue.isNil
  rw [if_neg (by decide)]
  refine Tame.bind (tame_loadVar t a) fun v => ?_
  split <;> trivial
theorem As.T119 (a : Addr) : Tame Tryd.prog (callFunc 119 [rv 113 a 150].toArray) := by
  refine tame_ext (e := ReflectliteValue.method (ReflectliteValue.valueError "reflectlite.Value.IsNil" 0) ReflectliteValue.isNil) Tryd.func119 (by kernel_rfl) (by kernel_rfl) (by kernel_rfl) (by kernel_rfl) ?_
  show Tame Tryd.prog (ReflectliteValue.method _ _ #[rv 113 a 150])
  rw [As.rlm]
  exact Tame.pur (a := some (113, a, 150)) (pur_of (by kernel_rfl)) (As.t119 113 a 150)
theorem As.t129 {P : Program} {t e : Nat} (a : Addr) (fl : Nat) {r : Addr → Value} (h1 : Pur P (some e) (Rtype.elem? t)) (h2 : ∀ p, Pur P (r p) (ReflectliteValue.mk e p ReflectliteValue.flagAddr)) : Tame P (ReflectliteValue.elem t a fl 22) := by
  unfold ReflectliteValue.elem
  rw [if_neg (by decide)]
  refine Tame.bind (tame_loadVar t a) fun v => Tame.pur h1 ?_
  cases v with
  | pointer q =>
    cases q with
    | none => trivial
    | some p => exact (h2 p).tame
  | _ => exact tame_valueError _ _
theorem As.T129 (a : Addr) : Tame Tryd.prog (callFunc 129 [rv 113 a 150].toArray) := by
  refine tame_ext (e := ReflectliteValue.method (ReflectliteValue.valueError "reflectlite.Value.Elem" 0) ReflectliteValue.elem) Tryd.func129 (by kernel_rfl) (by kernel_rfl) (by kernel_rfl) (by kernel_rfl) ?_
  show Tame Tryd.prog (ReflectliteValue.method _ _ #[rv 113 a 150])
  rw [As.rlm]
  exact Tame.pur (a := some (113, a, 150)) (pur_of (by kernel_rfl)) (As.t129 (t := 113) (e := 111) (r := fun p => rv 111 p 409) a 150 (pur_of (by kernel_rfl)) (fun p => pur_of (by kernel_rfl)))
theorem As.t130 {P : Program} {v x : Value} {t : Nat} {a b : Addr} {fl : Nat} (hv : Pur P (some (t, a, 409)) (ReflectliteValue.parts v)) (hx : Pur P (some (t, b, fl)) (ReflectliteValue.parts x)) (hd : Pur P true (Rtype.directlyAssignable t t)) : Tame P (ReflectliteValue.set #[v, x]) := by
  rw [As.rls]
  refine Tame.pur hv (Tame.pur hx ?_)
  dsimp only
  rw [if_neg (by decide)]
  refine Tame.bind (tame_loadVar t b) fun u => Tame.pur hd ?_
  rw [if_pos rfl]
  exact Tame.bind (tame_storeVar t a u) fun _ => trivial
theorem As.T130 (a b : Addr) : Tame Tryd.prog (callFunc 130 [rv 111 a 409, rv 111 b 153].toArray) := by
  refine tame_ext (e := ReflectliteValue.set) Tryd.func130 (by kernel_rfl) (by kernel_rfl) (by kernel_rfl) (by kernel_rfl) ?_
  exact As.t130 (t := 111) (a := a) (b := b) (fl := 153) (pur_of (by kernel_rfl)) (pur_of (by kernel_rfl)) (pur_of (by kernel_rfl))
end Go.Proofs.YtofkhehcnfiopaaDoor.N
namespace Go.Proofs.YtofkhehcnfiopaaDoor.N
open Go Go.RowKit Go.Proofs
set_option linter.unusedSectionVars false
variable [I : Sys]
/-- An interface value and nil. -/
theorem run_eql_nil_no {t t' : TypeId} {v : Value} {P : Program} {ms} (ht : P.underlying t = some (.interface ms)) (x : Operand) (w : World) :
    (do eqGuard .eql t x (.const .nilIface) (.iface t' v) .nilIface; binOp .eql t (.iface t' v) .nilIface : Sem Value).run P w = .ok (.bool false) w := by
  have hg : (eqGuard .eql t x (.const .nilIface) (.iface t' v) .nilIface).run P w = .ok () w := by simp [eqGuard]
  have hb : (binOp .eql t (.iface t' v) .nilIface).run P w = .ok (.bool false) w := by
    show (do pure (.bool (← Op.equal t (.iface t' v) .nilIface)) : Sem Value).run P w = _
    have he : (Op.equal t (.iface t' v) .nilIface).run P w = .ok false w := by
      show (Op.equalIn (9999 + 1) t (.iface t' v) .nilIface).run P w = _
      unfold Op.equalIn
      simp only [Sem.run_bind, run_underlying ht, Result.andThen_ok]
      simp
    simp only [Sem.run_bind, he, Result.andThen_ok, Sem.run_pure]
  simp only [Sem.run_bind, hg, Result.andThen_ok, hb]
theorem At.store_blk {C : Ctx} {fr : List (Nat × Value)} {hp hp' : List Res} {a : Act} {w : World} (ha : At C fr hp a w) {ty t b n m : Nat} {cs vs : List Value} {z : Value} [hc : Cells (.agg vs.toArray) vs] (hi : TI C.P ty z n m) (hu : Upd (.blk b (.cells cs.toArray t (0, 0))) (.blk b (.cells vs.toArray t (0, 0))) hp hp') (hn : vs.length = n := by rfl) (hl : cs.length = vs.length := by rfl) :
    ∃ w', (storeVar ty ⟨b, 0, none⟩ (.agg vs.toArray)).run C.P w = .ok () w' ∧ At C fr hp' a w' := by
  obtain ⟨i, hi, _, hsz, _⟩ := hi
  have hs : Splice cs 0 vs vs := ⟨by simp [hl], by omega⟩
  obtain ⟨w', h1, h2, h3⟩ := splice_upd hs (ha.mem_blk hu.mem) hc.one C.P
  refine ⟨w', ?_, ha.turn hu h3 ⟨(ha.own _ hu.mem).1, h2⟩ (fun k hk => .inl hk)⟩
  simp [storeVar, sizeOf, typeInfo, hi, hc.eq, hn, hsz, h1]
end Go.Proofs.YtofkhehcnfiopaaDoor.N
namespace Go.Proofs.YtofkhehcnfiopaaDoor.N
open Go Go.RowKit Go.Proofs
set_option linter.unusedSectionVars false
variable [I : Sys]
theorem F.agg111 : aggB Tryd.prog 111 = true := by unfold aggB; rw [Tryd.underlying111]
theorem F.agg149 : aggB Tryd.prog 149 = true := by unfold aggB; rw [Tryd.underlying149]
theorem F.ent120 : Enters Tryd.prog 120 := enters_of Tryd.func120 rfl (by kernel_rfl)
theorem F.one152 : One Tryd.prog 152 := ⟨by unfold aggB; rw [Tryd.underlying152], by rw [Tryd.underlying152]; simp⟩
theorem F.ti149 : TI Tryd.prog 149 (.agg [.pointer none, .pointer none, .int .u64 0].toArray) 3 24 := TI.of (by kernel_rfl)
set_option maxRecDepth 100000 in
theorem as_hit {C : Ctx} {fr : List (Nat × Value)} {T : List Res} {a : Act} {w : World} (hC : C.P = Tryd.prog) {bt bp : Nat} {x y x0 y0 : Int} (ha : At C fr (.blk bt (.cells [.int .i64 x0, .int .i64 y0].toArray 111 (0, 0)) :: .blk bp (.cells [.pointer (some ⟨bt, 0, none⟩)].toArray 113 (0, 0)) :: T) a w) : Calls C.P 120 #[.iface 111 (.agg [.int .i64 x, .int .i64 y].toArray), .iface 113 (.pointer (some ⟨bt, 0, none⟩)), (Value.agg (([.pointer (some ⟨1, 113, none⟩), .pointer (some ⟨bp, 0, none⟩), .int .u64 150] : List Value)).toArray), iT 111] w fun e w' => e = .returned (.bool true) ∧ At C fr (.blk bt (.cells [.int .i64 x, .int .i64 y].toArray 111 (0, 0)) :: .blk bp (.cells [.pointer (some ⟨bt, 0, none⟩)].toArray 113 (0, 0)) :: T) a w' := by
  obtain ⟨P, B, w0, N0, ds⟩ := C
  obtain rfl : P = Tryd.prog := hC
  (try dsimp only at hB)
  (try dsimp only at hN)
  refine enter_in (N := 62) [(0, .iface 111 (.agg [.int .i64 x, .int .i64 y].toArray)), (1, .iface 113 (.pointer (some ⟨bt, 0, none⟩))), (2, (Value.agg (([.pointer (some ⟨1, 113, none⟩), .pointer (some ⟨bp, 0, none⟩), .int .u64 150] : List Value)).toArray)), (3, iT 111)] ha Tryd.func120 rfl Tryd.ntmps120 rfl rfl ?_
  refine cod_seq ?_
  refine cod_region ?_
  refine lst_box rfl rfl ?_
  intro b6
  refine lst_assign rfl rfl ?_
  refine lst_nil ?_
  refine ex_then ?_
  refine cod_block ?_
  refine cod_loop' (G := Nat) (fun g => g = 0) (fun g => 0) (fun g => [(0, .iface 111 (.agg [.int .i64 x, .int .i64 y].toArray)), (1, .iface 113 (.pointer (some ⟨bt, 0, none⟩))), (3, iT 111), (6, .pointer (some ⟨b6, 0, none⟩))]) (fun g => .blk b6 (.cells [.pointer (some ⟨1, 113, none⟩), .pointer (some ⟨bp, 0, none⟩), .int .u64 150].toArray 149 (0, 0)) :: .blk bt (.cells [.int .i64 x0, .int .i64 y0].toArray 111 (0, 0)) :: .blk bp (.cells [.pointer (some ⟨bt, 0, none⟩)].toArray 113 (0, 0)) :: T) (0) rfl sbn pkk ?_
  rintro k hk0
  try dsimp only at hk0 ⊢
  refine cod_block ?_
  refine cod_seq ?_
  refine cod_seq ?_
  refine cod_region ?_
  refine lst_move rfl rfl ?_
  refine lst_prim (X := Unit) (vs := [_]) (val := fun _ => iT 111) (rs := fun _ => .blk b6 (.cells [.pointer (some ⟨1, 113, none⟩), .pointer (some ⟨bp, 0, none⟩), .int .u64 150].toArray 149 (0, 0)) :: .blk bt (.cells [.int .i64 x0, .int .i64 y0].toArray 111 (0, 0)) :: .blk bp (.cells [.pointer (some ⟨bt, 0, none⟩)].toArray 113 (0, 0)) :: T) rfl rfl rfl (As.T128 _) (fun a w ha => ⟨(), w, As.c128 (As.typeOf111 _ w), ha⟩) ?_
  rintro ⟨⟩
  (try dsimp only)
  refine lst_move rfl rfl ?_
  refine lst_method (vs := [_]) rfl rfl rfl (As.PAssignableTo _) As.T154 (fun w => As.methodAssignableTo _ w) (fun w => As.c154 (As.assignable111 w)) ?_
  refine lst_nil ?_
  refine ex_then ?_
  refine cod_cond_true rfl ?_
  refine cod_seq ?_
  refine cod_region ?_
  refine lst_loadN rfl rfl F.agg149 F.ti149 ?_
  refine lst_prim (X := Unit) (vs := [_]) (val := fun _ => (Value.agg (([.pointer (some ⟨1, 111, none⟩), .pointer (some ⟨bt, 0, none⟩), .int .u64 409] : List Value)).toArray)) (rs := fun _ => .blk b6 (.cells [.pointer (some ⟨1, 113, none⟩), .pointer (some ⟨bp, 0, none⟩), .int .u64 150].toArray 149 (0, 0)) :: .blk bt (.cells [.int .i64 x0, .int .i64 y0].toArray 111 (0, 0)) :: .blk bp (.cells [.pointer (some ⟨bt, 0, none⟩)].toArray 113 (0, 0)) :: T) rfl rfl rfl (As.T129 _) (fun a w ha => ⟨(), w, As.c129 (As.elemV113 ⟨bp, 0, none⟩ ⟨bt, 0, none⟩ w (cell_of_blk (ha.mem_blk (InB.mem (b := bp))) rfl)), ha⟩) ?_
  rintro ⟨⟩
  (try dsimp only)
  refine lst_move rfl rfl ?_
  refine lst_prim (X := Nat) (vs := [_]) (val := fun b => (Value.agg (([.pointer (some ⟨1, 111, none⟩), .pointer (some ⟨b, 0, none⟩), .int .u64 153] : List Value)).toArray)) (rs := fun b => .blk b (.cells [.int .i64 x, .int .i64 y].toArray 111 (0, 0)) :: .blk b6 (.cells [.pointer (some ⟨1, 113, none⟩), .pointer (some ⟨bp, 0, none⟩), .int .u64 150].toArray 149 (0, 0)) :: .blk bt (.cells [.int .i64 x0, .int .i64 y0].toArray 111 (0, 0)) :: .blk bp (.cells [.pointer (some ⟨bt, 0, none⟩)].toArray 113 (0, 0)) :: T) rfl rfl rfl (As.T117b _ _) (fun a w ha => ⟨w.heap.size, _, As.c117 (As.valueOf111 x y w), ha.alloc (.cells [.int .i64 x, .int .i64 y].toArray 111)⟩) ?_
  intro b
  (try dsimp only)
  refine lst_prim (X := Unit) (vs := [_, _]) (val := fun _ => .tuple #[]) (rs := fun _ => .blk b (.cells [.int .i64 x, .int .i64 y].toArray 111 (0, 0)) :: .blk b6 (.cells [.pointer (some ⟨1, 113, none⟩), .pointer (some ⟨bp, 0, none⟩), .int .u64 150].toArray 149 (0, 0)) :: .blk bt (.cells [.int .i64 x, .int .i64 y].toArray 111 (0, 0)) :: .blk bp (.cells [.pointer (some ⟨bt, 0, none⟩)].toArray 113 (0, 0)) :: T) rfl rfl rfl (As.T130 _ _) (fun a w ha => by
    obtain ⟨w', h1, h2⟩ := ha.store_blk (ty := 111) (t := 111) (b := bt) (cs := [.int .i64 x0, .int .i64 y0]) (vs := [.int .i64 x, .int .i64 y]) F.ti111 (.tail _ (.tail _ (.head _)))
    have hl := run_loadVar_blk (ct := 111) (b := b) (l := [.int .i64 x, .int .i64 y]) ha F.agg111 F.ti111 rfl
    have hs := As.set111 ⟨bt, 0, none⟩ ⟨b, 0, none⟩ (.agg [.int .i64 x, .int .i64 y].toArray) w w' hl h1
    exact ⟨(), w', As.c130 hs, h2⟩) ?_
  rintro ⟨⟩
  (try dsimp only)
  refine lst_nil ?_
  refine ex_then ?_
  refine cod_seq ?_
  refine cod_region ?_
  refine lst_assign rfl rfl ?_
  refine lst_nil ?_
  refine ex_then ?_
  refine cod_ret ?_
  refine ex_then_ret ?_
  refine ex_block_ret ?_
  refine ex_then_ret ?_
  refine ex_block_ret ?_
  exact ex_ret rfl (fun a w ha => res_one rfl rfl ha) (fun _ _ ha' => ⟨rfl, ha.back (ha'.pck pkk)⟩)

set_option maxRecDepth 100000 in
theorem As_hit {C : Ctx} {fr : List (Nat × Value)} {T : List Res} {a : Act} {w : World} (hC : C.P = Tryd.prog) {bt : Nat} {x y x0 y0 : Int} (hB : C.w0.heap.size = C.B) (hB0 : 0 < C.B) (hE : C.w0.cell? ⟨0, 0, none⟩ = some (iT 107)) (ha : At C fr (.blk bt (.cells [.int .i64 x0, .int .i64 y0].toArray 111 (0, 0)) :: T) a w) : Calls C.P 96 #[.iface 111 (.agg [.int .i64 x, .int .i64 y].toArray), .iface 113 (.pointer (some ⟨bt, 0, none⟩))] w fun e w' => e = .returned (.bool true) ∧ At C fr (.blk bt (.cells [.int .i64 x, .int .i64 y].toArray 111 (0, 0)) :: T) a w' := by
  obtain ⟨P, B, w0, N0, ds⟩ := C
  obtain rfl : P = Tryd.prog := hC
  (try dsimp only at hB)
  (try dsimp only at hN)
  refine enter_in (N := 42) [(0, .iface 111 (.agg [.int .i64 x, .int .i64 y].toArray)), (1, .iface 113 (.pointer (some ⟨bt, 0, none⟩)))] ha Tryd.func96 rfl Tryd.ntmps96 rfl rfl ?_
  refine cod_seq ?_
  refine cod_region ?_
  refine lst_assign rfl rfl ?_
  refine lst_nil ?_
  refine ex_then ?_
  refine cod_seq ?_
  refine cod_seq ?_
  refine cod_region ?_
  refine lst_move rfl rfl ?_
  refine lst_bin (v := .bool false) rfl rfl rfl (run_eql_nil_no Tryd.underlying107 _) ?_
  refine lst_nil ?_
  refine ex_then ?_
  refine cod_cond_false rfl ?_
  refine cod_skip ?_
  refine ex_then ?_
  refine cod_seq ?_
  refine cod_seq ?_
  refine cod_region ?_
  refine lst_move rfl rfl ?_
  refine lst_bin (v := .bool false) rfl rfl rfl (run_eql_nil_no Tryd.underlying20 _) ?_
  refine lst_nil ?_
  refine ex_then ?_
  refine cod_cond_false rfl ?_
  refine cod_skip ?_
  refine ex_then ?_
  refine cod_seq ?_
  refine cod_region ?_
  refine lst_move rfl rfl ?_
  refine lst_prim (X := Nat) (vs := [_]) (val := fun b => (Value.agg (([.pointer (some ⟨1, 113, none⟩), .pointer (some ⟨b, 0, none⟩), .int .u64 150] : List Value)).toArray)) (rs := fun b => .blk b (.cells [.pointer (some ⟨bt, 0, none⟩)].toArray 113 (0, 0)) :: .blk bt (.cells [.int .i64 x0, .int .i64 y0].toArray 111 (0, 0)) :: T) rfl rfl rfl (As.T117a _) (fun a w ha => ⟨w.heap.size, _, As.c117 (As.valueOf113 ⟨bt, 0, none⟩ w), ha.alloc (.cells [.pointer (some ⟨bt, 0, none⟩)].toArray 113)⟩) ?_
  intro b
  (try dsimp only)
  refine lst_alloc rfl F.ti149 ?_
  intro b5
  refine lst_store rfl rfl F.ti149 rfl ?_
  refine lst_nil ?_
  refine ex_then ?_
  refine cod_seq ?_
  refine cod_region ?_
  refine lst_loadN rfl rfl F.agg149 F.ti149 ?_
  refine lst_prim (X := Unit) (vs := [_]) (val := fun _ => iT 113) (rs := fun _ => .blk b5 (.cells [.pointer (some ⟨1, 113, none⟩), .pointer (some ⟨b, 0, none⟩), .int .u64 150].toArray 149 (0, 0)) :: .blk b (.cells [.pointer (some ⟨bt, 0, none⟩)].toArray 113 (0, 0)) :: .blk bt (.cells [.int .i64 x0, .int .i64 y0].toArray 111 (0, 0)) :: T) rfl rfl rfl (As.T118 _) (fun a w ha => ⟨(), w, As.c118 (As.type113 ⟨b, 0, none⟩ w), ha⟩) ?_
  rintro ⟨⟩
  (try dsimp only)
  refine lst_assign rfl rfl ?_
  refine lst_nil ?_
  refine ex_then ?_
  refine cod_seq ?_
  refine cod_seq ?_
  refine cod_region ?_
  refine lst_move rfl rfl ?_
  refine lst_method (vs := []) rfl rfl rfl (As.PKind _) As.T145a (fun w => As.methodKind _ w) (fun w => As.c145 (As.kind113 w)) ?_
  refine lst_int rfl rfl rfl bin_neq ?_
  refine lst_move rfl rfl ?_
  refine lst_on rfl rfl ?_
  refine lst_loadN rfl rfl F.agg149 F.ti149 ?_
  refine lst_on rfl rfl ?_
  refine lst_prim (X := Unit) (vs := [_]) (val := fun _ => .bool false) (rs := fun _ => .blk b5 (.cells [.pointer (some ⟨1, 113, none⟩), .pointer (some ⟨b, 0, none⟩), .int .u64 150].toArray 149 (0, 0)) :: .blk b (.cells [.pointer (some ⟨bt, 0, none⟩)].toArray 113 (0, 0)) :: .blk bt (.cells [.int .i64 x0, .int .i64 y0].toArray 111 (0, 0)) :: T) rfl rfl rfl (As.T119 _) (fun a w ha => ⟨(), w, As.c119 (As.isNil113 ⟨b, 0, none⟩ ⟨bt, 0, none⟩ w (cell_of_blk (ha.mem_blk (InB.mem (b := b))) rfl)), ha⟩) ?_
  rintro ⟨⟩
  (try dsimp only)
  refine lst_pick_false rfl rfl rfl ?_
  refine lst_nil ?_
  refine ex_then ?_
  refine cod_cond_false rfl ?_
  refine cod_skip ?_
  refine ex_then ?_
  refine cod_seq ?_
  refine cod_region ?_
  refine lst_move rfl rfl ?_
  refine lst_method (vs := []) rfl rfl rfl (As.PElem _) As.T156 (fun w => As.methodElem _ w) (fun w => As.c156 (As.elem113 w)) ?_
  refine lst_assign rfl rfl ?_
  refine lst_nil ?_
  refine ex_then ?_
  refine cod_seq ?_
  refine cod_seq ?_
  refine cod_region ?_
  refine lst_move rfl rfl ?_
  refine lst_method (vs := []) rfl rfl rfl (As.PKind _) As.T145b (fun w => As.methodKind _ w) (fun w => As.c145 (As.kind111 w)) ?_
  refine lst_int rfl rfl rfl bin_neq ?_
  refine lst_move rfl rfl ?_
  refine lst_on rfl rfl ?_
  refine lst_move rfl rfl ?_
  refine lst_on rfl rfl ?_
  refine lst_load_at (v := iT 107) rfl rfl F.one152 (fun a w ha => ha.old hE (by omega)) ?_
  refine lst_on rfl rfl ?_
  refine lst_method (vs := [_]) rfl rfl rfl (As.PImplements _) As.T157 (fun w => As.methodImplements _ w) (fun w => As.c157 (As.implements111 w)) ?_
  refine lst_on rfl rfl ?_
  refine lst_not rfl rfl ?_
  refine lst_pick_true rfl rfl rfl ?_
  refine lst_nil ?_
  refine ex_then ?_
  refine cod_cond_false rfl ?_
  refine cod_skip ?_
  refine ex_then ?_
  refine cod_seq ?_
  refine cod_region ?_
  refine lst_move rfl rfl ?_
  refine lst_move rfl rfl ?_
  refine lst_loadN rfl rfl F.agg149 F.ti149 ?_
  refine lst_move rfl rfl ?_
  refine lst_call (X := Unit) (first := []) (cap := []) (vs := [_, _, _, _]) (p := fun _ => True) (val := fun _ => .bool true) (rs := fun _ => .blk b5 (.cells [.pointer (some ⟨1, 113, none⟩), .pointer (some ⟨b, 0, none⟩), .int .u64 150].toArray 149 (0, 0)) :: .blk b (.cells [.pointer (some ⟨bt, 0, none⟩)].toArray 113 (0, 0)) :: .blk bt (.cells [.int .i64 x, .int .i64 y].toArray 111 (0, 0)) :: T) rfl rfl rfl F.ent120 (fun a w ha => (as_hit (bt := bt) (bp := b) (x := x) (y := y) (x0 := x0) (y0 := y0) (T := .blk b5 (.cells [.pointer (some ⟨1, 113, none⟩), .pointer (some ⟨b, 0, none⟩), .int .u64 150].toArray 149 (0, 0)) :: T) rfl (ha.pck pkk)).mono (fun e w' h => ⟨(), trivial, h.1, h.2.pck pkk⟩)) ?_
  rintro ⟨⟩ -
  (try dsimp only)
  refine lst_assign rfl rfl ?_
  refine lst_nil ?_
  refine ex_then ?_
  refine cod_ret ?_
  exact ex_ret rfl (fun a w ha => res_one rfl rfl ha) (fun _ _ ha' => ⟨rfl, ha.back (ha'.pck pkk)⟩)

end Go.Proofs.YtofkhehcnfiopaaDoor.N
namespace Go.Proofs.YtofkhehcnfiopaaDoor.N
open Go Go.RowKit Go.Proofs
set_option linter.unusedSectionVars false
variable [I : Sys]
/-- What is said first of agents and two numbers. -/
def askedR (l : List RA) (m p : Int) : Nat := if ¬ checkR l = 0 then checkR l else if (inB m 0 63 && inB p 0 63) = true then 0 else 1
end Go.Proofs.YtofkhehcnfiopaaDoor.N
namespace Go.Proofs.YtofkhehcnfiopaaDoor.N
open Go Go.RowKit Go.Proofs
set_option linter.unusedSectionVars false
variable [I : Sys]
/-- A slice that reads as a list wherever some things are held. -/
def Rds {α : Type} (cells : α → List Value) (size : Nat) (C : Ctx) (T : List Res) (A : Option Addr) (l : List α) : Prop :=
  ∀ (C' : Ctx) (fr : List (Nat × Value)) (hp : List Res) (a : Act) (w : World), At C' fr hp a w → C'.P = C.P → C'.B = C.B → C'.w0 = C.w0 → (∀ r ∈ T, r ∈ hp) → RdL cells size w A l
theorem Rds.row {α : Type} {cells : α → List Value} {size : Nat} {C : Ctx} {T : List Res} {A : Option Addr} {l : List α} {e c : Nat} (hs : ∀ x, (cells x).length = size) (h : Res.row e size A l.length c (l.flatMap cells) ∈ T) : Rds cells size C T A l :=
  fun _ _ _ _ _ ha _ _ _ hm => row_reads ha hs (hm _ h) rfl
theorem Rds.blk {α : Type} {cells : α → List Value} {size : Nat} {C : Ctx} {T : List Res} {b ct : Nat} {l : List α} (hs : ∀ x, (cells x).length = size) (h : Res.blk b (.cells (l.flatMap cells).toArray ct (0, 0)) ∈ T) : Rds cells size C T (some ⟨b, 0, none⟩) l := by
  intro C' fr hp a w ha _ _ _ hm _
  refine ⟨b, 0, rfl, (Res.lt (ha.own _ (hm _ h)) b rfl).2, fun k x hk j u hu => ?_⟩
  rw [Nat.zero_add]
  exact cell_of_blk (ha.mem_blk (hm _ h)) (flatMap_get hs l k x hk j u hu)
theorem Rds.old {α : Type} {cells : α → List Value} {size : Nat} {C : Ctx} {T : List Res} {A : Option Addr} {l : List α} (h : RdL cells size C.w0 A l) (hB : C.w0.heap.size = C.B) : Rds cells size C T A l := by
  intro C' fr hp a w ha _ h2 h3 _ hl
  obtain ⟨b, o, e1, e2, e3⟩ := h hl
  have hbB : b < C'.B := by rw [h2, ← hB]; exact e2
  refine ⟨b, o, e1, ?_, fun k x hk j u hu => ?_⟩
  · have h4 := ha.below.size
    rw [h3] at h4
    omega
  · exact ha.old (by rw [h3]; exact e3 k x hk j u hu) hbB
/-- What becomes of a melt along a way; else the error. -/
def alongE (ags : List Ag) : Nat → List Int → Except Nat (List Nat)
  | _, [] => .ok []
  | f, n :: l => if inB n 0 ((ags.length : Int) - 1) = false then .error 3 else if mayN (ags.getD n.toNat default) f = false then .error 12 else (alongE ags (putN (ags.getD n.toNat default) f) l).map (putN (ags.getD n.toNat default) f :: ·)
/-- The outs so far, and what is still to come. -/
def goesOn (outs : List Nat) (r : Except Nat (List Nat)) : Except Nat (List Nat) := r.map (outs ++ ·)
theorem goesOn_nil (r : Except Nat (List Nat)) : goesOn [] r = r := by cases r <;> rfl
theorem alongE_step {ags : List Ag} {f k : Nat} {n : Int} {way : List Int} (hn : way[k]? = some n) : alongE ags f (way.drop k) = if inB n 0 ((ags.length : Int) - 1) = false then .error 3 else if mayN (ags.getD n.toNat default) f = false then .error 12 else (alongE ags (putN (ags.getD n.toNat default) f) (way.drop (k + 1))).map (putN (ags.getD n.toNat default) f :: ·) := by
  obtain ⟨hk, he⟩ := List.getElem?_eq_some_iff.1 hn
  rw [List.drop_eq_getElem_cons hk, he]
  rfl
theorem goesOn_step (outs : List Nat) (x : Nat) (r : Except Nat (List Nat)) : goesOn outs (r.map (x :: ·)) = goesOn (outs ++ [x]) r := by
  cases r with
  | error c => rfl
  | ok l =>
    show Except.ok (outs ++ (x :: l)) = Except.ok ((outs ++ [x]) ++ l)
    rw [List.append_assoc]; rfl
end Go.Proofs.YtofkhehcnfiopaaDoor.N
namespace Go.Proofs.YtofkhehcnfiopaaDoor.N
open Go Go.RowKit Go.Proofs
set_option linter.unusedSectionVars false
variable [I : Sys]
theorem F.pl111 : Places Tryd.prog 111 [(0, 1), (1, 1)] := .inl ⟨_, Tryd.underlying111, by kernel_rfl⟩
theorem May_ok (A : Option Addr) (c : Nat) (ags : List Ag) (hok : Oks ags) (f : Nat) (hf : f < 64) (w : World) (hA : RdL Ag.cells 5 w A ags) : Calls Tryd.prog 41 #[.slice A ags.length c, .int .i64 (f : Int)] w fun e w' => ∃ A' c', e = .returned (.tuple #[.slice A' (canTo ags (usedAll ags.length) f ags.length).length c', .int .i64 0]) ∧ Grew w w' [.row 3 1 A' (canTo ags (usedAll ags.length) f ags.length).length c' (ints (canTo ags (usedAll ags.length) f ags.length))] := by
  have hua : usedAll ags.length < 256 := by have := usedAll_lt hok.1; omega
  refine enter_defers (N := 13) [(0, .slice A ags.length c), (1, .int .i64 (f : Int))] Tryd.func41 rfl Tryd.ntmps41 rfl rfl ?_
  refine cod_seq ?_
  refine cod_region ?_
  refine lst_assign rfl rfl ?_
  refine lst_alloc rfl F.ti35 ?_
  intro b5
  refine lst_nil ?_
  refine ex_then ?_
  refine cod_seq ?_
  refine cod_region ?_
  refine lst_defer (first := []) (cap := []) (vs := [_]) rfl rfl ?_
  refine lst_nil ?_
  refine ex_then ?_
  refine cod_seq ?_
  refine cod_region ?_
  refine lst_move rfl rfl ?_
  refine lst_fn (X := Option Addr × Nat) (vs := [_]) (p := fun _ => True) (val := fun x => .agg [.slice x.1 ags.length x.2, .int .u8 (usedAll ags.length : Nat)].toArray) (rs := fun x => [.row 89 5 x.1 ags.length x.2 (ags.flatMap Ag.cells)]) rfl rfl F.ent75 (fun a w ha => (begin_ok A c ags hok w (hA.later ha.below)).mono (fun e w' h => by obtain ⟨A', c', h1, h2⟩ := h; exact ⟨(A', c'), trivial, h1, h2⟩)) ?_
  rintro ⟨aA, cg⟩ -
  dsimp only [List.cons_append, List.nil_append]
  refine lst_alloc rfl F.ti75 ?_
  intro b6
  refine lst_store rfl rfl F.ti75 rfl ?_
  refine lst_nil ?_
  refine ex_then ?_
  refine cod_seq ?_
  refine any_begin [.b b5] F.follows 6 rfl [false, false, false, false, false, false] rfl ?_
  refine any_tk 0 rfl rfl rfl (yld_loadN rfl F.agg75 F.ti75) ?_
  refine any_tk 1 rfl rfl rfl (yld_move rfl) ?_
  refine any_one 2 (by kernel_rfl) rfl rfl ?_
  refine lst_fn0 (vs := [_]) rfl rfl F.ent76 (fun a w ha => melt_ok f hf w) ?_
  refine lst_nil ?_
  refine any_next sbl ?_
  refine any_one 3 (by kernel_rfl) rfl rfl ?_
  refine lst_fn (X := Option Addr × Nat) (vs := [_, _]) (p := fun _ => True) (val := fun x => .slice x.1 (canTo ags (usedAll ags.length) f ags.length).length x.2) (rs := fun x => [.row 3 1 x.1 (canTo ags (usedAll ags.length) f ags.length).length x.2 (ints (canTo ags (usedAll ags.length) f ags.length))]) rfl rfl F.ent89 (fun a w ha => (can_c aA cg ags (usedAll ags.length) f hok hua (by omega) w (row_reads ha (cells := Ag.cells) (e := 89) (c := cg) (n := ags.length) (fun _ => rfl) (by simp) rfl)).mono (fun e w' h => by obtain ⟨A', c', h1, h2⟩ := h; exact ⟨(A', c'), trivial, h1, h2⟩)) ?_
  rintro ⟨cA, cc⟩ -
  dsimp only [List.cons_append, List.nil_append]
  refine lst_nil ?_
  refine any_next sbl ?_
  refine any_tk 4 rfl rfl rfl (yld_assign rfl) ?_
  refine any_one 5 (by kernel_rfl) rfl rfl ?_
  refine lst_store rfl rfl F.ti35 rfl ?_
  refine lst_nil ?_
  refine any_next sbl ?_
  refine any_done rfl (by kernel_rfl) ?_
  refine ex_then ?_
  refine cod_ret ?_
  exact ex_ret_caught (fun a w ha => ⟨_, res_tc (fn := Tryd.f41) ha rfl rfl rfl F.one35, cA, cc, rfl, ha.grown sbl⟩)

theorem along_c {C : Ctx} {fr : List (Nat × Value)} {T : List Res} {a : Act} {w : World} (hC : C.P = Tryd.prog) {ags : List Ag} {used f cg wc : Nat} {aA wA : Option Addr} {way : List Int} (hok : Oks ags) (hf : f < 64) (hwl : way.length ≤ 20) (hW : Rds icell 1 C T wA way) (hsome : 0 < ags.length → ∃ g, aA = some ⟨g, 0, none⟩) (hAg : Res.row 89 5 aA ags.length cg (ags.flatMap Ag.cells) ∈ T) (ha : At C fr (T) a w) : Calls C.P 95 #[.agg [.slice aA ags.length cg, .int .u8 (used : Int)].toArray, .int .u8 (f : Int), .slice wA way.length wc] w fun e w' => (∃ (outs : List Nat) (A' : Option Addr) (c' : Nat), alongE ags f way = .ok outs ∧ outs.length = way.length ∧ e = .returned (.tuple #[.slice A' outs.length c', .nilIface]) ∧ At C fr (.row 3 1 A' outs.length c' (ints outs) :: T) a w') ∨ (∃ (code k : Nat), alongE ags f way = .error code ∧ (code = 3 ∨ code = 12) ∧ e = .returned (.tuple #[.slice none 0 0, .iface 111 (.agg #[.int .i64 (code : Int), .int .i64 (k : Int)])]) ∧ At C fr T a w') := by
  obtain ⟨P, B, w0, N0, ds⟩ := C
  obtain rfl : P = Tryd.prog := hC
  (try dsimp only at hB)
  (try dsimp only at hN)
  refine enter_in (N := 52) [(0, .agg [.slice aA ags.length cg, .int .u8 (used : Int)].toArray), (1, .int .u8 (f : Int)), (2, .slice wA way.length wc)] ha Tryd.func95 rfl Tryd.ntmps95 rfl rfl ?_
  refine cod_seq ?_
  refine cod_region ?_
  refine lst_box rfl rfl ?_
  intro b3
  refine lst_assign rfl rfl ?_
  refine lst_assign rfl rfl ?_
  refine lst_nil ?_
  refine ex_then ?_
  refine cod_seq ?_
  refine cod_region ?_
  refine lst_assign rfl rfl ?_
  refine lst_nil ?_
  refine ex_then ?_
  refine cod_seq ?_
  refine cod_seq ?_
  refine cod_region ?_
  refine lst_move rfl rfl ?_
  refine lst_len rfl rfl Tryd.underlying25 ?_
  refine lst_move rfl rfl ?_
  refine lst_nil ?_
  refine ex_then ?_
  refine cod_block ?_
  refine cod_nil 3 1 ?_
  refine cod_loop' (G := Nat × Nat × Option Addr × Nat × List Nat) (fun g => g.1 ≤ way.length ∧ g.2.2.2.2.length = g.1 ∧ g.2.1 < 64 ∧ alongE ags f way = goesOn g.2.2.2.2 (alongE ags g.2.1 (way.drop g.1))) (fun g => way.length - g.1) (fun g => [(3, .pointer (some ⟨b3, 0, none⟩)), (1, .int .u8 (g.2.1 : Int)), (8, .slice g.2.2.1 g.2.2.2.2.length g.2.2.2.1), (11, .slice wA way.length wc), (12, .int .i64 (way.length : Int)), (13, .int .i64 (g.1 : Int))]) (fun g => .row 3 1 g.2.2.1 g.2.2.2.2.length g.2.2.2.1 (ints g.2.2.2.2) :: .blk b3 (.cells [.slice aA ags.length cg, .int .u8 (used : Int)].toArray 75 (0, 0)) :: T) (0, f, none, 0, []) ⟨Nat.zero_le _, rfl, hf, by rw [goesOn_nil]; rfl⟩ sbn pkk ?_
  rintro ⟨k, fk, A1, c1, l1⟩ ⟨hk, hl1, hfk, hal⟩
  dsimp only at hk hl1 hfk hal ⊢
  refine cod_seq ?_
  refine cod_region ?_
  refine lst_int rfl rfl rfl bin_lss ?_
  refine lst_nil ?_
  refine ex_then ?_
  refine cod_seq ?_
  refine cod_cond_dec rfl (fun hc0 => ?_) (fun hc0 => ?_)
  · skip
    have hk' : k < way.length := by omega
    refine cod_know (φ := ∃ b o, wA = some ⟨b, o, none⟩) (fun a w ha => by obtain ⟨b, o, h1, _⟩ := (hW _ _ _ _ _ ha rfl rfl rfl (fun r hr => by simp [hr])) (by omega); exact ⟨b, o, h1⟩) (fun hA => ?_)
    obtain ⟨b, o, rfl⟩ := hA
    obtain ⟨n, hwn⟩ : ∃ n, way[k]? = some n := ⟨_, List.getElem?_eq_getElem hk'⟩
    rw [alongE_step hwn] at hal
    refine cod_skip ?_
    refine ex_then ?_
    refine cod_seq ?_
    refine cod_block ?_
    refine cod_seq ?_
    refine cod_region ?_
    refine lst_move rfl rfl ?_
    refine lst_index (j := k) rfl rfl rfl Tryd.underlying25 F.ti3 rfl hk' ?_
    refine lst_load_at (v := .int .i64 n) rfl rfl F.one3 (fun a w ha => by obtain ⟨b2, o2, h1, _, h3⟩ := (hW _ _ _ _ _ ha rfl rfl rfl (fun r hr => by simp [hr])) (by omega); cases h1; exact h3 k n hwn 0 _ rfl) ?_
    refine lst_assign rfl rfl ?_
    refine lst_assign rfl rfl ?_
    refine lst_nil ?_
    refine ex_then ?_
    refine cod_seq ?_
    refine cod_seq ?_
    refine cod_region ?_
    refine lst_move rfl rfl ?_
    refine lst_field_z rfl rfl F.fi75_0 F.ti72 ?_
    refine lst_load rfl rfl F.one72 ?_
    refine lst_len rfl rfl Tryd.underlying72 ?_
    refine lst_int rfl rfl rfl (fun w => bin_sub w (wrap_i64' _ (by omega) (by have := hok.1; omega))) ?_
    refine lst_fn0 (vs := [_, _, _]) rfl rfl F.ent99 (fun a w ha => outside_c n 0 ((ags.length : Int) - 1) w) ?_
    refine lst_nil ?_
    refine ex_then ?_
    refine cod_cond_bool rfl (fun hc1 => ?_) (fun hc1 => ?_)
    · skip
      refine cod_seq ?_
      refine cod_region ?_
      refine lst_move rfl rfl ?_
      refine lst_struct (vs := [(0, _), (1, _)]) (l' := [_, _]) rfl rfl F.ti111 F.pl111 (.cons rfl rfl (.cons rfl rfl (.nil _))) rfl ?_
      refine lst_makeInterface rfl rfl Tryd.underlying111 rfl ?_
      refine lst_assign rfl rfl ?_
      refine lst_assign rfl rfl ?_
      refine lst_nil ?_
      refine ex_then ?_
      refine cod_ret ?_
      refine ex_then_ret ?_
      refine ex_block_ret ?_
      refine ex_then_ret ?_
      refine ex_then_ret ?_
      refine ex_block_ret ?_
      refine ex_then_ret ?_
      have hb : inB n 0 ((ags.length : Int) - 1) = false := by simpa using hc1
      rw [if_pos hb] at hal
      exact ex_ret rfl (fun a w ha => res_two rfl rfl rfl ha) (fun _ _ ha' => .inr ⟨3, k, hal, .inl rfl, rfl, ha.back (ha'.pck pkk)⟩)
    · skip
      have hb : inB n 0 ((ags.length : Int) - 1) = true := by simpa using hc1
      rw [if_neg (by rw [hb]; simp)] at hal
      rw [inB_true] at hb
      obtain ⟨i, rfl⟩ := Int.eq_ofNat_of_zero_le hb.1
      have hi' : i < ags.length := by omega
      rw [Int.toNat_natCast] at hal
      obtain ⟨gA, hgA⟩ := hsome (by omega)
      subst hgA
      obtain ⟨x, hx⟩ : ∃ x, ags[i]? = some x := ⟨_, List.getElem?_eq_getElem hi'⟩
      have hxo : x.ok := hok.2 x (List.mem_of_getElem? hx)
      have hxd : ags.getD i default = x := by rw [List.getD_eq_getElem?_getD, hx]; rfl
      rw [hxd] at hal
      refine cod_skip ?_
      refine ex_then ?_
      refine cod_seq ?_
      refine cod_seq ?_
      refine cod_region ?_
      refine lst_field_z rfl rfl F.fi75_0 F.ti72 ?_
      refine lst_load rfl rfl F.one72 ?_
      refine lst_move rfl rfl ?_
      refine lst_index (j := i) rfl rfl rfl Tryd.underlying72 F.ti89 rfl hi' ?_
      refine lst_loadN_at (l := [.int .i64 (x.needs : Int), .int .i64 (x.no : Int), .int .i64 (x.takes : Int), .int .i64 (x.leaves : Int), .int .i64 (x.cost : Int)]) rfl rfl F.agg89 F.ti89 rfl (fun a w ha j u hu => row_at ha (e := 89) (n := ags.length) (c := cg) (cells := Ag.cells) (by simp [hAg]) (fun _ => rfl) hx hu) ?_
      refine lst_move rfl rfl ?_
      refine lst_fn0 (vs := [_, _]) rfl rfl F.ent85 (fun a w ha => may_c x fk hxo (by omega) w) ?_
      refine lst_not rfl rfl ?_
      refine lst_nil ?_
      refine ex_then ?_
      refine cod_cond_bool rfl (fun hc2 => ?_) (fun hc2 => ?_)
      · skip
        refine cod_seq ?_
        refine cod_region ?_
        refine lst_move rfl rfl ?_
        refine lst_struct (vs := [(0, _), (1, _)]) (l' := [_, _]) rfl rfl F.ti111 F.pl111 (.cons rfl rfl (.cons rfl rfl (.nil _))) rfl ?_
        refine lst_makeInterface rfl rfl Tryd.underlying111 rfl ?_
        refine lst_assign rfl rfl ?_
        refine lst_assign rfl rfl ?_
        refine lst_nil ?_
        refine ex_then ?_
        refine cod_ret ?_
        refine ex_then_ret ?_
        refine ex_block_ret ?_
        refine ex_then_ret ?_
        refine ex_then_ret ?_
        refine ex_block_ret ?_
        refine ex_then_ret ?_
        have hm : mayN x fk = false := by simpa using hc2
        rw [if_pos hm] at hal
        exact ex_ret rfl (fun a w ha => res_two rfl rfl rfl ha) (fun _ _ ha' => .inr ⟨12, k, hal, .inr rfl, rfl, ha.back (ha'.pck pkk)⟩)
      · skip
        have hm : mayN x fk = true := by simpa using hc2
        rw [if_neg (by rw [hm]; simp), goesOn_step] at hal
        refine cod_skip ?_
        refine ex_then ?_
        refine cod_seq ?_
        refine cod_region ?_
        refine lst_field_z rfl rfl F.fi75_0 F.ti72 ?_
        refine lst_load rfl rfl F.one72 ?_
        refine lst_move rfl rfl ?_
        refine lst_index (j := i) rfl rfl rfl Tryd.underlying72 F.ti89 rfl hi' ?_
        refine lst_loadN_at (l := [.int .i64 (x.needs : Int), .int .i64 (x.no : Int), .int .i64 (x.takes : Int), .int .i64 (x.leaves : Int), .int .i64 (x.cost : Int)]) rfl rfl F.agg89 F.ti89 rfl (fun a w ha j u hu => row_at ha (e := 89) (n := ags.length) (c := cg) (cells := Ag.cells) (by simp [hAg]) (fun _ => rfl) hx hu) ?_
        refine lst_move rfl rfl ?_
        refine lst_fn0 (vs := [_, _]) rfl rfl F.ent91 (fun a w ha => put_c x fk hxo (by omega) w) ?_
        refine lst_assign rfl rfl ?_
        refine lst_nil ?_
        refine ex_then ?_
        refine cod_region ?_
        refine lst_move rfl rfl ?_
        refine lst_move rfl rfl ?_
        refine lst_convert rfl rfl Tryd.underlying77 Tryd.underlying3 (wrap_i64' _ (by omega) (by have := putN_lt hxo hfk; omega)) ?_
        refine lst_lit (vs := [(0, _)]) rfl rfl Tryd.underlying25 F.ti3 rfl rfl rfl ?_
        intro b48
        refine lst_append rfl rfl rfl Tryd.underlying25 F.ti3 rfl rfl rfl (by unfold maxLen; omega) (by omega) ?_
        intro A2 c2
        refine lst_assign rfl rfl ?_
        refine lst_nil ?_
        refine ex_block_normal ?_
        refine ex_then ?_
        refine cod_region ?_
        refine lst_int rfl rfl rfl (fun w => bin_add w (wrap_i64' _ (by omega) (by omega))) ?_
        refine lst_move rfl rfl ?_
        refine lst_nil ?_
        refine ex_round' (k + 1, putN x fk, A2, c2, l1 ++ [putN x fk]) ⟨by omega, by simp; omega, putN_lt hxo hfk, hal⟩ (by (try dsimp only); omega) (by dsimp only; rw [List.length_append, List.length_singleton]; repeat (first | exact Sub.nil _ | refine Sub.cons rfl ?_)) (by dsimp only; rw [List.length_append, List.length_singleton, ints_snoc]; repeat (first | exact Pck.nil _ | exact Pck.refl _ | (apply Pck.cons; focus ((repeat (first | exact Rem.here _ | apply Rem.there)); done)) | refine Pck.skip _ ?_))
  · skip
    refine cod_exit ?_
    refine ex_then_exit ?_
    refine ex_then_exit ?_
    refine ex_block_exit ?_
    refine ex_then ?_
    refine cod_seq ?_
    refine cod_region ?_
    refine lst_move rfl rfl ?_
    refine lst_assign rfl rfl ?_
    refine lst_assign rfl rfl ?_
    refine lst_nil ?_
    refine ex_then ?_
    refine cod_ret ?_
    obtain rfl : k = way.length := by omega
    rw [List.drop_length] at hal
    have hal' : alongE ags f way = .ok l1 := by rw [hal]; show Except.ok (l1 ++ []) = _; rw [List.append_nil]
    exact ex_ret rfl (fun a w ha => res_two rfl rfl rfl ha) (fun _ _ ha' => .inl ⟨l1, A1, c1, hal', hl1, rfl, ha.back (ha'.pck pkk)⟩)

end Go.Proofs.YtofkhehcnfiopaaDoor.N
namespace Go.Proofs.YtofkhehcnfiopaaDoor.N
open Go Go.RowKit Go.Proofs
set_option linter.unusedSectionVars false
variable [I : Sys]
/-- What Put says. -/
def PutS (ags : List Ag) (f : Nat) (way : List Int) (outs : List Nat) (E : Nat) : Prop :=
  (way.length ≤ 20 ∧ alongE ags f way = .ok outs ∧ E = 0 ∧ outs.length = way.length) ∨ (way.length ≤ 20 ∧ alongE ags f way = .error E ∧ (E = 3 ∨ E = 12) ∧ outs = []) ∨ (20 < way.length ∧ E = 6 ∧ outs = [])
theorem PutS.len {ags : List Ag} {f E : Nat} {way : List Int} {outs : List Nat} (h : PutS ags f way outs E) : outs.length ≤ 20 := by
  rcases h with ⟨h1, _, _, h4⟩ | ⟨_, _, _, rfl⟩ | ⟨_, _, rfl⟩
  · omega
  · simp
  · simp
end Go.Proofs.YtofkhehcnfiopaaDoor.N
namespace Go.Proofs.YtofkhehcnfiopaaDoor.N
open Go Go.RowKit Go.Proofs
set_option linter.unusedSectionVars false
variable [I : Sys]
theorem heap_pos {w : World} {v : Value} (h : w.cell? ⟨0, 0, none⟩ = some v) : 0 < w.heap.size := by
  rcases Nat.eq_zero_or_pos w.heap.size with h0 | h1
  · simp [World.cell?, h0] at h
  · exact h1
end Go.Proofs.YtofkhehcnfiopaaDoor.N
namespace Go.Proofs.YtofkhehcnfiopaaDoor.N
open Go Go.RowKit Go.Proofs
set_option linter.unusedSectionVars false
variable [I : Sys]
theorem F.fi111_0 : FI Tryd.prog 111 0 35 0 := ⟨_, _, Tryd.underlying111, rfl, rfl, rfl⟩
theorem Put_c (A : Option Addr) (c : Nat) (ags : List Ag) (hok : Oks ags) (wA : Option Addr) (wc f : Nat) (way : List Int) (hf : f < 64) (w : World) (hA : RdL Ag.cells 5 w A ags) (hW : RdL icell 1 w wA way) (hE : w.cell? ⟨0, 0, none⟩ = some (iT 107)) : Calls Tryd.prog 40 #[.slice A ags.length c, .int .i64 (f : Int), .slice wA way.length wc] w fun e w' => ∃ (outs : List Nat) (E : Nat) (A' : Option Addr) (c' : Nat), PutS ags f way outs E ∧ e = .returned (.tuple #[.slice A' outs.length c', .int .i64 (E : Int)]) ∧ Grew w w' [.row 3 1 A' outs.length c' (ints outs)] := by
  have hua : usedAll ags.length < 256 := by have := usedAll_lt hok.1; omega
  have hpos : 0 < w.heap.size := heap_pos hE
  refine enter_defers (N := 32) [(0, .slice A ags.length c), (1, .int .i64 (f : Int)), (2, .slice wA way.length wc)] Tryd.func40 rfl Tryd.ntmps40 rfl rfl ?_
  refine cod_seq ?_
  refine cod_region ?_
  refine lst_assign rfl rfl ?_
  refine lst_alloc rfl F.ti35 ?_
  intro b7
  refine lst_nil ?_
  refine ex_then ?_
  refine cod_seq ?_
  refine cod_region ?_
  refine lst_defer (first := []) (cap := []) (vs := [_]) rfl rfl ?_
  refine lst_nil ?_
  refine ex_then ?_
  refine cod_seq ?_
  refine cod_region ?_
  refine lst_move rfl rfl ?_
  refine lst_fn (X := Option Addr × Nat) (vs := [_]) (p := fun _ => True) (val := fun x => .agg [.slice x.1 ags.length x.2, .int .u8 (usedAll ags.length : Nat)].toArray) (rs := fun x => [.row 89 5 x.1 ags.length x.2 (ags.flatMap Ag.cells)]) rfl rfl F.ent75 (fun a w ha => (begin_ok A c ags hok w (hA.later ha.below)).mono (fun e w' h => by obtain ⟨A', c', h1, h2⟩ := h; exact ⟨(A', c'), trivial, h1, h2⟩)) ?_
  rintro ⟨aA, cg⟩ -
  dsimp only [List.cons_append, List.nil_append]
  refine lst_know (φ := 0 < ags.length → ∃ g, aA = some ⟨g, 0, none⟩) (fun a w ha h => row_some (ha.own (.row 89 5 aA ags.length cg (ags.flatMap Ag.cells)) (by simp)) h) (fun hsome => ?_)
  refine lst_alloc rfl F.ti75 ?_
  intro b8
  refine lst_store rfl rfl F.ti75 rfl ?_
  refine lst_nil ?_
  refine ex_then ?_
  refine cod_seq ?_
  refine cod_region ?_
  refine lst_move rfl rfl ?_
  refine lst_fn0 (vs := [_]) rfl rfl F.ent76 (fun a w ha => melt_ok f hf w) ?_
  refine lst_assign rfl rfl ?_
  refine lst_nil ?_
  refine ex_then ?_
  refine cod_seq ?_
  refine cod_seq ?_
  refine cod_region ?_
  refine lst_move rfl rfl ?_
  refine lst_len rfl rfl Tryd.underlying25 ?_
  refine lst_int rfl rfl rfl bin_gtr ?_
  refine lst_nil ?_
  refine ex_then ?_
  refine cod_cond_dec rfl (fun hc0 => ?_) (fun hc0 => ?_)
  · skip
    refine cod_seq ?_
    refine cod_region ?_
    refine lst_assign rfl rfl ?_
    refine lst_store rfl rfl F.ti35 rfl ?_
    refine lst_nil ?_
    refine ex_then ?_
    refine cod_ret ?_
    refine ex_then_ret ?_
    exact ex_ret_caught (fun a w ha => ⟨_, res_tc (fn := Tryd.f40) ha rfl rfl rfl F.one35, [], 6, none, 0, .inr (.inr ⟨by omega, rfl, rfl⟩), rfl, (ha.add_nil 3 1).grown sbl⟩)
  · skip
    refine cod_skip ?_
    refine ex_then ?_
    refine cod_seq ?_
    have hwl : way.length ≤ 20 := by omega
    rcases hal : alongE ags f way with code | outs
    · skip
      refine cod_region ?_
      refine lst_loadN rfl rfl F.agg75 F.ti75 ?_
      refine lst_move rfl rfl ?_
      refine lst_move rfl rfl ?_
      refine lst_call (X := Nat) (first := []) (cap := []) (vs := [_, _, _]) (p := fun _ => code = 3 ∨ code = 12) (val := fun k => .tuple #[.slice none 0 0, .iface 111 (.agg #[.int .i64 (code : Int), .int .i64 (k : Int)])]) (rs := fun k => .blk b8 (.cells [.slice aA ags.length cg, .int .u8 (usedAll ags.length : Nat)].toArray 75 (0, 0)) :: .row 89 5 aA ags.length cg (ags.flatMap Ag.cells) :: [.blk b7 (.cells [.int .i64 0].toArray 35 (0, 0))]) rfl rfl rfl F.ent95 (fun a w ha => (along_c (T := .blk b8 (.cells [.slice aA ags.length cg, .int .u8 (usedAll ags.length : Nat)].toArray 75 (0, 0)) :: .row 89 5 aA ags.length cg (ags.flatMap Ag.cells) :: [.blk b7 (.cells [.int .i64 0].toArray 35 (0, 0))]) rfl hok hf hwl (Rds.old (hW.later (Below.refl _ _)) rfl) hsome (by simp) ha).mono (fun e w' h => by
        rcases h with ⟨o2, A', c', h1, h2, h3, h4⟩ | ⟨co, k, h1, h2, h3, h4⟩
        · rw [hal] at h1; cases h1
        · rw [hal] at h1
          obtain rfl := Except.error.inj h1
          exact ⟨k, h2, h3, h4⟩)) ?_
      intro kk hco
      dsimp only at hco ⊢
      refine lst_move rfl rfl ?_
      refine lst_extract rfl rfl rfl ?_
      refine lst_extract rfl rfl rfl ?_
      refine lst_assign rfl rfl ?_
      refine lst_assign rfl rfl ?_
      refine lst_nil ?_
      refine ex_then ?_
      refine cod_seq ?_
      refine cod_region ?_
      refine lst_alloc rfl F.ti111 ?_
      intro b11
      refine lst_nil ?_
      refine ex_then ?_
      refine cod_seq ?_
      refine cod_seq ?_
      refine cod_region ?_
      refine lst_move rfl rfl ?_
      refine lst_makeInterface rfl rfl Tryd.underlying113 rfl ?_
      refine lst_call (X := Unit) (first := []) (cap := []) (vs := [_, _]) (p := fun _ => True) (val := fun _ => .bool true) (rs := fun _ => .blk b11 (.cells [.int .i64 (code : Int), .int .i64 (kk : Int)].toArray 111 (0, 0)) :: .blk b8 (.cells [.slice aA ags.length cg, .int .u8 (usedAll ags.length : Nat)].toArray 75 (0, 0)) :: .row 89 5 aA ags.length cg (ags.flatMap Ag.cells) :: [.blk b7 (.cells [.int .i64 0].toArray 35 (0, 0))]) rfl rfl rfl F.ent96 (fun a w ha => (As_hit (bt := b11) (x := (code : Int)) (y := (kk : Int)) (x0 := 0) (y0 := 0) rfl rfl hpos hE ha).mono (fun e w' h => ⟨(), trivial, h.1, h.2⟩)) ?_
      rintro ⟨⟩ -
      (try dsimp only)
      refine lst_nil ?_
      refine ex_then ?_
      refine cod_cond_true rfl ?_
      refine cod_seq ?_
      refine any_begin [.b b7] F.follows 4 rfl [false, false, false, false] rfl ?_
      refine any_tk 0 rfl rfl rfl (yld_field_z rfl F.fi111_0 F.ti35) ?_
      refine any_tk 1 rfl rfl rfl (yld_load rfl F.one35) ?_
      refine any_tk 2 rfl rfl rfl (yld_assign rfl) ?_
      refine any_one 3 (by kernel_rfl) rfl rfl ?_
      refine lst_store rfl rfl F.ti35 rfl ?_
      refine lst_nil ?_
      refine any_next sbl ?_
      refine any_done rfl (by kernel_rfl) ?_
      refine ex_then ?_
      refine cod_ret ?_
      refine ex_then_ret ?_
      exact ex_ret_caught (fun a w ha => ⟨_, res_tc (fn := Tryd.f40) ha rfl rfl rfl F.one35, [], code, none, 0, .inr (.inl ⟨hwl, hal, hco, rfl⟩), rfl, (ha.add_nil 3 1).grown sbl⟩)
    · skip
      refine cod_region ?_
      refine lst_loadN rfl rfl F.agg75 F.ti75 ?_
      refine lst_move rfl rfl ?_
      refine lst_move rfl rfl ?_
      refine lst_call (X := Option Addr × Nat) (first := []) (cap := []) (vs := [_, _, _]) (p := fun _ => outs.length = way.length) (val := fun x => .tuple #[.slice x.1 outs.length x.2, .nilIface]) (rs := fun x => .row 3 1 x.1 outs.length x.2 (ints outs) :: .blk b8 (.cells [.slice aA ags.length cg, .int .u8 (usedAll ags.length : Nat)].toArray 75 (0, 0)) :: .row 89 5 aA ags.length cg (ags.flatMap Ag.cells) :: [.blk b7 (.cells [.int .i64 0].toArray 35 (0, 0))]) rfl rfl rfl F.ent95 (fun a w ha => (along_c (T := .blk b8 (.cells [.slice aA ags.length cg, .int .u8 (usedAll ags.length : Nat)].toArray 75 (0, 0)) :: .row 89 5 aA ags.length cg (ags.flatMap Ag.cells) :: [.blk b7 (.cells [.int .i64 0].toArray 35 (0, 0))]) rfl hok hf hwl (Rds.old (hW.later (Below.refl _ _)) rfl) hsome (by simp) ha).mono (fun e w' h => by
        rcases h with ⟨o2, A', c', h1, h2, h3, h4⟩ | ⟨co, k, h1, _⟩
        · rw [hal] at h1
          obtain rfl := Except.ok.inj h1
          exact ⟨(A', c'), h2, h3, h4⟩
        · rw [hal] at h1; cases h1)) ?_
      rintro ⟨A1, c1⟩ hol
      dsimp only at hol ⊢
      refine lst_move rfl rfl ?_
      refine lst_extract rfl rfl rfl ?_
      refine lst_extract rfl rfl rfl ?_
      refine lst_assign rfl rfl ?_
      refine lst_assign rfl rfl ?_
      refine lst_nil ?_
      refine ex_then ?_
      refine cod_seq ?_
      refine cod_region ?_
      refine lst_alloc rfl F.ti111 ?_
      intro b11
      refine lst_nil ?_
      refine ex_then ?_
      refine cod_seq ?_
      refine cod_seq ?_
      refine cod_region ?_
      refine lst_move rfl rfl ?_
      refine lst_makeInterface rfl rfl Tryd.underlying113 rfl ?_
      refine lst_fn0 (vs := [_, _]) rfl rfl F.ent96 (fun a w ha => as_nil _ w) ?_
      refine lst_nil ?_
      refine ex_then ?_
      refine cod_cond_false rfl ?_
      refine cod_skip ?_
      refine ex_then ?_
      refine cod_seq ?_
      refine cod_region ?_
      refine lst_move rfl rfl ?_
      refine lst_assign rfl rfl ?_
      refine lst_store rfl rfl F.ti35 rfl ?_
      refine lst_nil ?_
      refine ex_then ?_
      refine cod_ret ?_
      exact ex_ret_caught (fun a w ha => ⟨_, res_tc (fn := Tryd.f40) ha rfl rfl rfl F.one35, outs, 0, A1, c1, .inl ⟨hwl, hal, rfl, hol⟩, rfl, ha.grown sbl⟩)

end Go.Proofs.YtofkhehcnfiopaaDoor.N
namespace Go.Proofs.YtofkhehcnfiopaaDoor.N
open Go Go.RowKit Go.Proofs
set_option linter.unusedSectionVars false
variable [I : Sys]
def castL (l : List Nat) : List Int := l.map fun (n : Nat) => (n : Int)
def lastN (m : Nat) (l : List Nat) : Nat := l.getLast?.getD m
theorem lastN_snoc (m : Nat) (l : List Nat) (x : Nat) : lastN m (l ++ [x]) = x := by
  unfold lastN
  simp
theorem castL_len (l : List Nat) : (castL l).length = l.length := List.length_map ..
theorem castL_get {l : List Nat} {i x : Nat} (h : l[i]? = some x) : (castL l)[i]? = some (x : Int) := by
  unfold castL
  rw [List.getElem?_map, h]; rfl
/-- The law's own way through the list. -/
structure Wlk (ags : List Ag) (m : Nat) (W : List Nat) (i now due : Nat) : Prop where
  lt : now < 64
  go : due = 0 → ∃ pre, pre.length = i ∧ lastN m pre = now ∧ alongE ags m (castL W) = goesOn pre (alongE ags now ((castL W).drop i))
  bad : due ≠ 0 → (due = 3 ∨ due = 12) ∧ alongE ags m (castL W) = .error due
theorem Wlk.zero {ags : List Ag} {m : Nat} {W : List Nat} (hm : m < 64) : Wlk ags m W 0 m 0 := ⟨hm, fun _ => ⟨[], rfl, rfl, by rw [goesOn_nil]; rfl⟩, fun h => absurd rfl h⟩
theorem Wlk.next {ags : List Ag} {m now i x : Nat} {W : List Nat} (hok : Oks ags) (h : Wlk ags m W i now 0) (hx : W[i]? = some x) (hb : x < ags.length) (hm : mayN (ags.getD x default) now = true) : Wlk ags m W (i + 1) (putN (ags.getD x default) now) 0 := by
  obtain ⟨pre, h1, h2, h3⟩ := h.go rfl
  rw [alongE_step (castL_get hx), if_neg (by rw [Bool.not_eq_false, inB_true]; omega), Int.toNat_natCast, if_neg (by rw [hm]; simp), goesOn_step] at h3
  exact ⟨putN_lt (agd_ok hok hb) h.lt, fun _ => ⟨_, by rw [List.length_append, h1]; rfl, lastN_snoc _ _ _, h3⟩, fun e => absurd rfl e⟩
/-- What the law finds agrees with Put. -/
theorem Wlk.ends {ags : List Ag} {m now i due E : Nat} {W outs : List Nat} (h : Wlk ags m W i now due) (hput : PutS ags m (castL W) outs E) (hi : i ≤ W.length) (hend : (decide ((i : Int) < (W.length : Int)) && decide ((due : Int) = 0)) = false) (h20 : W.length ≤ 20) :
    E = due ∧ (due ≠ 0 → outs = []) ∧ (due = 0 → lastN m outs = now ∧ outs.length = W.length ∧ alongE ags m (castL W) = .ok outs) := by
  have hwl := castL_len W
  by_cases hd : due = 0
  · subst hd
    obtain ⟨pre, h1, h2, h3⟩ := h.go rfl
    simp at hend
    obtain rfl : i = W.length := by omega
    rw [show (castL W).drop W.length = [] by rw [← hwl, List.drop_length]] at h3
    have h4 : alongE ags m (castL W) = .ok pre := by rw [h3]; show Except.ok (pre ++ []) = _; rw [List.append_nil]
    rcases hput with ⟨_, g1, g2, g3⟩ | ⟨_, g1, _⟩ | ⟨g1, _⟩
    · rw [h4] at g1
      obtain rfl := Except.ok.inj g1
      exact ⟨g2, fun e => absurd rfl e, fun _ => ⟨h2, by omega, h4⟩⟩
    · rw [h4] at g1; cases g1
    · omega
  · obtain ⟨_, h2⟩ := h.bad hd
    rcases hput with ⟨_, g1, _⟩ | ⟨_, g1, _, g3⟩ | ⟨g1, _⟩
    · rw [h2] at g1; cases g1
    · rw [h2] at g1
      exact ⟨(Except.error.inj g1).symm, fun _ => g3, fun e => absurd e hd⟩
    · omega
theorem PutS.ok {ags : List Ag} {f E : Nat} {way : List Int} {outs o : List Nat} (h : PutS ags f way outs E) (hl : way.length ≤ 20) (ho : alongE ags f way = .ok o) : E = 0 ∧ outs = o := by
  rcases h with ⟨_, g1, g2, _⟩ | ⟨_, g1, _⟩ | ⟨g1, _⟩
  · rw [ho] at g1
    exact ⟨g2, (Except.ok.inj g1).symm⟩
  · rw [ho] at g1; cases g1
  · omega
theorem PutS.long {ags : List Ag} {f E : Nat} {way : List Int} {outs : List Nat} (h : PutS ags f way outs E) (hl : 20 < way.length) : E = 6 ∧ outs = [] := by
  rcases h with ⟨g, _⟩ | ⟨g, _⟩ | ⟨_, g⟩
  · omega
  · omega
  · exact g
end Go.Proofs.YtofkhehcnfiopaaDoor.N
namespace Go.Proofs.YtofkhehcnfiopaaDoor.N
open Go Go.RowKit Go.Proofs
set_option linter.unusedSectionVars false
variable [I : Sys]
theorem F.ent41 : Enters Tryd.prog 41 := enters_of Tryd.func41 rfl (by kernel_rfl)
end Go.Proofs.YtofkhehcnfiopaaDoor.N
namespace Go.Proofs.YtofkhehcnfiopaaDoor.N
open Go Go.RowKit Go.Proofs
set_option linter.unusedSectionVars false
variable [I : Sys]
section
variable {C : Ctx} {fr : List (Nat × Value)} {hp hp' : List Res} {a : Act} {w : World} {ops : Array Oper} {Q : Exit → Act → World → Prop} {rest : List Oper}
  {d : Nat} {ty : TypeId} {pos : String} {after : Array Edge}
/-- The ways out of a region that may panic. -/
def OnlyP (Q : Exit → Act → World → Prop) : Exit → Act → World → Prop
  | .normal, a, w => Q .normal a w
  | .panic ch, a, w => Q (.panic ch) a w
  | _, _, _ => False
theorem ex_only_panic {ch : List PanicEntry} (h : Ex C Q (.panic ch) fr hp) : Ex C (Lax (OnlyP Q)) (.panic ch) fr hp := fun a w ha => Lax.of (h a w ha)
def AnyP (C : Ctx) (ops : Array Oper) (Q : Exit → Act → World → Prop) (hpS : List Res) (fuel : Nat) (listed : Array Bool) (fr : List (Nat × Value)) (hp : List Res) : Prop :=
  ∀ a w, At C fr hp a w → wpAnyH C.P .any ops (Lax (OnlyP Q)) (Mem C hpS) fuel listed a w
variable {hpS : List Res} {fuel : Nat} {listed listed' : Array Bool}
theorem anyp_start {id : Nat} {l : List Oper} (hm : C.P.follows .mixedOrders = true) (n : Nat) (hn : l.length = n) (lst : List Bool) (hl : Array.replicate n false = lst.toArray) (_hs : hpS.Sublist hp) (h : AnyP C l.toArray Q hpS n lst.toArray fr hp) :
    Cod C (.region id l.toArray true) Q fr hp := by
  intro a w ha
  refine wp_mono (Q := OnlyP Q) (wp_lax (wp_region_held (S := Mem C hpS) hm ?_)) ?_
  · have h1 := h a _ ha
    rw [← hl] at h1
    simpa [hn] using h1
  · intro e a' w' he
    cases e with
    | normal => exact he
    | panic ch => exact he
    | _ => exact he.elim
def NxtP (C : Ctx) (ops : Array Oper) (Q : Exit → Act → World → Prop) (hpS : List Res) (fuel : Nat) (listed : Array Bool) (a : Act) (w : World) : Prop :=
  Mem C hpS w ∧ wpAnyH C.P .any ops (Lax (OnlyP Q)) (Mem C hpS) fuel listed a w
theorem opp_of_lst {i : Nat} {o : Oper} (hi : ops[i]? = some o) {K : Act → World → Prop} (h : Lst C ops (Exit.then K (Lax (OnlyP Q))) [o] fr hp) (ha : At C fr hp a w) : wpOp C.P ops (Lax (OnlyP Q)) i K a w := by
  have h := h a w ha
  unfold wpOp
  simp only [hi]
  simp only [wpList] at h
  split at h
  · rename_i hw
    rw [if_pos hw]
    exact h.mono (fun _ _ x => x) (fun _ _ _ x => x)
  · rename_i hw
    rw [if_neg hw]
    exact h
theorem anyp_one {o : Oper} (i : Nat) (hr : Region.ready .any ops listed = [i]) (hi : ops[i]? = some o) (hl : listed.setIfInBounds i true = listed') (h : Lst C ops (Exit.then (NxtP C ops Q hpS fuel listed') (Lax (OnlyP Q))) [o] fr hp) : AnyP C ops Q hpS (fuel + 1) listed fr hp := by
  intro a w ha
  refine wpAnyH_all hr (by simp) ?_
  intro k hk
  simp at hk
  subst hk
  rw [hl]
  exact opp_of_lst hi h ha
theorem anyp_two {o o' : Oper} {l1 l2 : Array Bool} (i j : Nat) (hr : Region.ready .any ops listed = [i, j]) (hi : ops[i]? = some o) (hj : ops[j]? = some o') (hl : listed.setIfInBounds i true = l1) (hl' : listed.setIfInBounds j true = l2)
    (h : Lst C ops (Exit.then (NxtP C ops Q hpS fuel l1) (Lax (OnlyP Q))) [o] fr hp) (h' : Lst C ops (Exit.then (NxtP C ops Q hpS fuel l2) (Lax (OnlyP Q))) [o'] fr hp) : AnyP C ops Q hpS (fuel + 1) listed fr hp := by
  intro a w ha
  refine wpAnyH_all hr (by simp) ?_
  intro k hk
  simp at hk
  rcases hk with rfl | rfl
  · rw [hl]; exact opp_of_lst hi h ha
  · rw [hl']; exact opp_of_lst hj h' ha
theorem anyp_next (hs : hpS.Sublist hp) (h : AnyP C ops Q hpS fuel listed fr hp) : Ex C (Exit.then (NxtP C ops Q hpS fuel listed) (Lax (OnlyP Q))) .normal fr hp :=
  fun a w ha => ⟨ha.toMem hs, h a w ha⟩
theorem anyp_begin {id : Nat} {l : List Oper} {hpS : List Res} (bs : List Dk) (hm : C.P.follows .mixedOrders = true) (n : Nat) (hn : l.length = n) (lst : List Bool) (hl : Array.replicate n false = lst.toArray) [hs : Drp bs hp hpS] (h : AnyP C l.toArray Q hpS n lst.toArray fr hp) :
    Cod C (.region id l.toArray true) Q fr hp := anyp_start hm n hn lst hl hs.sub h
end
end Go.Proofs.YtofkhehcnfiopaaDoor.N
namespace Go.Proofs.YtofkhehcnfiopaaDoor.N
open Go Go.RowKit Go.Proofs
set_option linter.unusedSectionVars false
variable [I : Sys]

theorem May_bad0 (A : Option Addr) (c : Nat) (ags : List Ag) (hok : Oks ags) (n0 : Int) (hn0 : inB n0 0 63 = false) (w : World) (hA : RdL Ag.cells 5 w A ags) : Calls Tryd.prog 41 #[.slice A ags.length c, .int .i64 n0] w fun e w' => e = .returned (.tuple #[.slice none 0 0, .int .i64 1]) ∧ Grew w w' [] := by
  have hua : usedAll ags.length < 256 := by have := usedAll_lt hok.1; omega
  refine enter_defers (N := 13) [(0, .slice A ags.length c), (1, .int .i64 n0)] Tryd.func41 rfl Tryd.ntmps41 rfl rfl ?_
  refine cod_seq ?_
  refine cod_region ?_
  refine lst_assign rfl rfl ?_
  refine lst_alloc rfl F.ti35 ?_
  intro b5
  refine lst_nil ?_
  refine ex_then ?_
  refine cod_seq ?_
  refine cod_region ?_
  refine lst_defer (first := []) (cap := []) (vs := [_]) rfl rfl ?_
  refine lst_nil ?_
  refine ex_then ?_
  refine cod_seq ?_
  refine cod_region ?_
  refine lst_move rfl rfl ?_
  refine lst_fn (X := Option Addr × Nat) (vs := [_]) (p := fun _ => True) (val := fun x => .agg [.slice x.1 ags.length x.2, .int .u8 (usedAll ags.length : Nat)].toArray) (rs := fun x => [.row 89 5 x.1 ags.length x.2 (ags.flatMap Ag.cells)]) rfl rfl F.ent75 (fun a w ha => (begin_ok A c ags hok w (hA.later ha.below)).mono (fun e w' h => by obtain ⟨A', c', h1, h2⟩ := h; exact ⟨(A', c'), trivial, h1, h2⟩)) ?_
  rintro ⟨aA, cg⟩ -
  dsimp only [List.cons_append, List.nil_append]
  refine lst_alloc rfl F.ti75 ?_
  intro b6
  refine lst_store rfl rfl F.ti75 rfl ?_
  refine lst_nil ?_
  refine ex_then ?_
  refine cod_seq ?_
  refine anyp_begin [.b b5] F.follows 6 rfl [false, false, false, false, false, false] rfl ?_
  refine anyp_two 0 1 (by kernel_rfl) rfl rfl rfl rfl ?_ ?_
  · skip
    refine lst_loadN rfl rfl F.agg75 F.ti75 ?_
    refine lst_nil ?_
    refine anyp_next sbl ?_
    refine anyp_one 1 (by kernel_rfl) rfl rfl ?_
    refine lst_move rfl rfl ?_
    refine lst_nil ?_
    refine anyp_next sbl ?_
    refine anyp_one 2 (by kernel_rfl) rfl rfl ?_
    refine lst_fn_panics (vs := [_]) rfl F.ent76 (fun a w ha => melt_bad n0 hn0 w) ?_
    refine ex_then_panic ?_
    refine ex_only_panic ?_
    refine ex_then_panic ?_
    exact ex_panic_caught (fun a w ha => ⟨_, res_tc (fn := Tryd.f41) ha rfl rfl rfl F.one35, rfl, ha.grown sbl⟩)
  · skip
    refine lst_move rfl rfl ?_
    refine lst_nil ?_
    refine anyp_next sbl ?_
    refine anyp_two 0 2 (by kernel_rfl) rfl rfl rfl rfl ?_ ?_
    · skip
      refine lst_loadN rfl rfl F.agg75 F.ti75 ?_
      refine lst_nil ?_
      refine anyp_next sbl ?_
      refine anyp_one 2 (by kernel_rfl) rfl rfl ?_
      refine lst_fn_panics (vs := [_]) rfl F.ent76 (fun a w ha => melt_bad n0 hn0 w) ?_
      refine ex_then_panic ?_
      refine ex_only_panic ?_
      refine ex_then_panic ?_
      exact ex_panic_caught (fun a w ha => ⟨_, res_tc (fn := Tryd.f41) ha rfl rfl rfl F.one35, rfl, ha.grown sbl⟩)
    · skip
      refine lst_fn_panics (vs := [_]) rfl F.ent76 (fun a w ha => melt_bad n0 hn0 w) ?_
      refine ex_then_panic ?_
      refine ex_only_panic ?_
      refine ex_then_panic ?_
      exact ex_panic_caught (fun a w ha => ⟨_, res_tc (fn := Tryd.f41) ha rfl rfl rfl F.one35, rfl, ha.grown sbl⟩)

end Go.Proofs.YtofkhehcnfiopaaDoor.N
namespace Go.Proofs.YtofkhehcnfiopaaDoor.N
open Go Go.RowKit Go.Proofs
set_option linter.unusedSectionVars false
variable [I : Sys]
/-- The agents that some numbers are. -/
def agsOf (l : List RA) : List Ag := l.map RA.ag
def idleL (ags : List Ag) (f : Nat) (l : List Nat) : List Nat := l.filter fun i => decide (putN (ags.getD i default) f = f)
theorem idleL_snoc (ags : List Ag) (f : Nat) (l : List Nat) (i : Nat) : idleL ags f (l ++ [i]) = idleL ags f l ++ (if putN (ags.getD i default) f = f then [i] else []) := by
  unfold idleL
  rw [List.filter_append]
  congr 1
  by_cases h : putN (ags.getD i default) f = f
  · rw [if_pos h]; simp only [List.filter_cons, List.filter_nil, decide_eq_true h]; rfl
  · rw [if_neg h]; simp only [List.filter_cons, List.filter_nil, decide_eq_false h]; rfl
theorem idleL_len (ags : List Ag) (f : Nat) (l : List Nat) : (idleL ags f l).length ≤ l.length := List.length_filter_le _ _
end Go.Proofs.YtofkhehcnfiopaaDoor.N
namespace Go.Proofs.YtofkhehcnfiopaaDoor.N
open Go Go.RowKit Go.Proofs
set_option linter.unusedSectionVars false
variable [I : Sys]

theorem Idle_ok (A : Option Addr) (c : Nat) (ags : List Ag) (hok : Oks ags) (f : Nat) (hf : f < 64) (w : World) (hA : RdL Ag.cells 5 w A ags) : Calls Tryd.prog 48 #[.slice A ags.length c, .int .i64 (f : Int)] w fun e w' => ∃ A' c', e = .returned (.tuple #[.slice A' (idleL ags f (canTo ags (usedAll ags.length) f ags.length)).length c', .int .i64 0]) ∧ Grew w w' [.row 3 1 A' (idleL ags f (canTo ags (usedAll ags.length) f ags.length)).length c' (ints (idleL ags f (canTo ags (usedAll ags.length) f ags.length)))] := by
  have hua : usedAll ags.length < 256 := by have := usedAll_lt hok.1; omega
  refine enter_defers (N := 37) [(0, .slice A ags.length c), (1, .int .i64 (f : Int))] Tryd.func48 rfl Tryd.ntmps48 rfl rfl ?_
  refine cod_seq ?_
  refine cod_region ?_
  refine lst_assign rfl rfl ?_
  refine lst_alloc rfl F.ti35 ?_
  intro b5
  refine lst_nil ?_
  refine ex_then ?_
  refine cod_seq ?_
  refine cod_region ?_
  refine lst_defer (first := []) (cap := []) (vs := [_]) rfl rfl ?_
  refine lst_nil ?_
  refine ex_then ?_
  refine cod_seq ?_
  refine cod_region ?_
  refine lst_move rfl rfl ?_
  refine lst_fn (X := Option Addr × Nat) (vs := [_]) (p := fun _ => True) (val := fun x => .agg [.slice x.1 ags.length x.2, .int .u8 (usedAll ags.length : Nat)].toArray) (rs := fun x => [.row 89 5 x.1 ags.length x.2 (ags.flatMap Ag.cells)]) rfl rfl F.ent75 (fun a w ha => (begin_ok A c ags hok w (hA.later ha.below)).mono (fun e w' h => by obtain ⟨A', c', h1, h2⟩ := h; exact ⟨(A', c'), trivial, h1, h2⟩)) ?_
  rintro ⟨aA, cg⟩ -
  dsimp only [List.cons_append, List.nil_append]
  refine lst_know (φ := 0 < ags.length → ∃ g, aA = some ⟨g, 0, none⟩) (fun a w ha h => row_some (ha.own (.row 89 5 aA ags.length cg (ags.flatMap Ag.cells)) (by simp)) h) (fun hsome => ?_)
  refine lst_alloc rfl F.ti75 ?_
  intro b6
  refine lst_store rfl rfl F.ti75 rfl ?_
  refine lst_nil ?_
  refine ex_then ?_
  refine cod_seq ?_
  refine cod_region ?_
  refine lst_move rfl rfl ?_
  refine lst_fn0 (vs := [_]) rfl rfl F.ent76 (fun a w ha => melt_ok f hf w) ?_
  refine lst_assign rfl rfl ?_
  refine lst_nil ?_
  refine ex_then ?_
  refine cod_seq ?_
  refine cod_seq ?_
  refine cod_region ?_
  refine lst_loadN rfl rfl F.agg75 F.ti75 ?_
  refine lst_move rfl rfl ?_
  refine lst_fn (X := Option Addr × Nat) (vs := [_, _]) (p := fun _ => True) (val := fun x => .slice x.1 (canTo ags (usedAll ags.length) f ags.length).length x.2) (rs := fun x => [.row 3 1 x.1 (canTo ags (usedAll ags.length) f ags.length).length x.2 (ints (canTo ags (usedAll ags.length) f ags.length))]) rfl rfl F.ent89 (fun a w ha => (can_c aA cg ags (usedAll ags.length) f hok hua (by omega) w (row_reads ha (cells := Ag.cells) (e := 89) (c := cg) (n := ags.length) (fun _ => rfl) (by simp) rfl)).mono (fun e w' h => by obtain ⟨A', c', h1, h2⟩ := h; exact ⟨(A', c'), trivial, h1, h2⟩)) ?_
  rintro ⟨cA, cc⟩ -
  dsimp only [List.cons_append, List.nil_append]
  refine lst_len rfl rfl Tryd.underlying25 ?_
  refine lst_move rfl rfl ?_
  refine lst_nil ?_
  refine ex_then ?_
  refine cod_block ?_
  refine cod_nil 3 1 ?_
  refine cod_loop (G := Nat × Option Addr × Nat) (fun g => g.1 ≤ (canTo ags (usedAll ags.length) f ags.length).length) (fun g => (canTo ags (usedAll ags.length) f ags.length).length - g.1) (fun g => [(4, .slice g.2.1 (idleL ags f ((canTo ags (usedAll ags.length) f ags.length).take g.1)).length g.2.2), (5, .pointer (some ⟨b5, 0, none⟩)), (6, .pointer (some ⟨b6, 0, none⟩)), (7, .int .u8 (f : Int)), (16, .slice cA (canTo ags (usedAll ags.length) f ags.length).length cc), (17, .int .i64 ((canTo ags (usedAll ags.length) f ags.length).length : Int)), (18, .int .i64 (g.1 : Int))]) (fun g => .row 3 1 g.2.1 (idleL ags f ((canTo ags (usedAll ags.length) f ags.length).take g.1)).length g.2.2 (ints (idleL ags f ((canTo ags (usedAll ags.length) f ags.length).take g.1))) :: .row 3 1 cA (canTo ags (usedAll ags.length) f ags.length).length cc (ints (canTo ags (usedAll ags.length) f ags.length)) :: .blk b6 (.cells [.slice aA ags.length cg, .int .u8 (usedAll ags.length : Nat)].toArray 75 (0, 0)) :: .row 89 5 aA ags.length cg (ags.flatMap Ag.cells) :: [.blk b5 (.cells [.int .i64 0].toArray 35 (0, 0))]) (0, none, 0) (Nat.zero_le _) sbn sbl ?_
  rintro ⟨k, A1, c1⟩ hk
  (try dsimp only at hk ⊢)
  refine cod_seq ?_
  refine cod_region ?_
  refine lst_int rfl rfl rfl bin_lss ?_
  refine lst_nil ?_
  refine ex_then ?_
  refine cod_seq ?_
  refine cod_cond_dec rfl (fun hc0 => ?_) (fun hc0 => ?_)
  · skip
    have ht' : k < (canTo ags (usedAll ags.length) f ags.length).length := by omega
    obtain ⟨i, hci⟩ : ∃ i, (canTo ags (usedAll ags.length) f ags.length)[k]? = some i := ⟨_, List.getElem?_eq_getElem ht'⟩
    obtain ⟨hi', _, _⟩ := canTo_mem (List.mem_of_getElem? hci)
    have hol := hok.1
    obtain ⟨gA, hgA⟩ : ∃ g, aA = some ⟨g, 0, none⟩ := hsome (by omega)
    subst hgA
    obtain ⟨x, hx⟩ : ∃ x, ags[i]? = some x := ⟨_, List.getElem?_eq_getElem hi'⟩
    have hxo : x.ok := hok.2 x (List.mem_of_getElem? hx)
    have hxd : ags.getD i default = x := by rw [List.getD_eq_getElem?_getD, hx]; rfl
    have hcl := canTo_len ags (usedAll ags.length) f ags.length
    have hsl : (idleL ags f ((canTo ags (usedAll ags.length) f ags.length).take k)).length ≤ 4 := by have := idleL_len ags f ((canTo ags (usedAll ags.length) f ags.length).take k); rw [List.length_take] at this; omega
    refine cod_skip ?_
    refine ex_then ?_
    refine cod_seq ?_
    refine cod_block ?_
    refine cod_seq ?_
    refine cod_region ?_
    refine lst_index_row (j := k) rfl rfl rfl Tryd.underlying25 F.ti3 rfl ht' rfl rfl ?_
    intro gC hgC
    refine lst_load_row (v := .int .i64 (i : Int)) rfl rfl F.one3 hgC (ints_get hci) ?_
    refine lst_assign rfl rfl ?_
    refine lst_nil ?_
    refine ex_then ?_
    refine cod_seq ?_
    refine cod_region ?_
    refine lst_field_z rfl rfl F.fi75_0 F.ti72 ?_
    refine lst_load rfl rfl F.one72 ?_
    refine lst_move rfl rfl ?_
    refine lst_index (j := i) rfl rfl rfl Tryd.underlying72 F.ti89 rfl hi' ?_
    refine lst_loadN_at (l := [.int .i64 (x.needs : Int), .int .i64 (x.no : Int), .int .i64 (x.takes : Int), .int .i64 (x.leaves : Int), .int .i64 (x.cost : Int)]) rfl rfl F.agg89 F.ti89 rfl (fun a w ha j u hu => row_at ha (e := 89) (n := ags.length) (c := cg) (cells := Ag.cells) (by simp) (fun _ => rfl) hx hu) ?_
    refine lst_move rfl rfl ?_
    refine lst_fn0 (vs := [_, _]) rfl rfl F.ent91 (fun a w ha => put_c x f hxo (by omega) w) ?_
    refine lst_move rfl rfl ?_
    refine lst_int rfl rfl rfl bin_eql ?_
    refine lst_nil ?_
    refine ex_then ?_
    refine cod_cond_dec rfl (fun hc1 => ?_) (fun hc1 => ?_)
    · skip
      refine cod_region ?_
      refine lst_move rfl rfl ?_
      refine lst_move rfl rfl ?_
      refine lst_lit (vs := [(0, _)]) rfl rfl Tryd.underlying25 F.ti3 rfl rfl rfl ?_
      intro b33
      refine lst_append rfl rfl rfl Tryd.underlying25 F.ti3 rfl rfl rfl (by unfold maxLen; omega) (by omega) ?_
      intro A2 c2
      refine lst_assign rfl rfl ?_
      refine lst_nil ?_
      refine ex_block_normal ?_
      refine ex_then ?_
      refine cod_region ?_
      refine lst_int rfl rfl rfl (fun w => bin_add w (wrap_i64' _ (by omega) (by omega))) ?_
      refine lst_move rfl rfl ?_
      refine lst_nil ?_
      have e : (idleL ags f ((canTo ags (usedAll ags.length) f ags.length).take (k + 1))) = (idleL ags f ((canTo ags (usedAll ags.length) f ags.length).take k)) ++ [i] := by rw [List.take_add_one, hci]; exact (idleL_snoc _ _ _ _).trans (by rw [hxd, if_pos (by omega)])
      refine ex_round (k + 1, A2, c2) (by (try dsimp only); omega) (by (try dsimp only); omega) (by (try dsimp only); (try rw [e]); simp only [List.length_append, List.length_singleton]; repeat (first | exact Sub.nil _ | refine Sub.cons rfl ?_)) (by (try dsimp only); (try rw [e]); simp only [ints_snoc, List.length_append, List.length_singleton]; repeat (first | exact List.Sublist.refl _ | exact List.nil_sublist _ | refine List.Sublist.cons_cons _ ?_ | refine List.Sublist.cons _ ?_))
    · skip
      refine cod_skip ?_
      refine ex_block_normal ?_
      refine ex_then ?_
      refine cod_region ?_
      refine lst_int rfl rfl rfl (fun w => bin_add w (wrap_i64' _ (by omega) (by omega))) ?_
      refine lst_move rfl rfl ?_
      refine lst_nil ?_
      have e : (idleL ags f ((canTo ags (usedAll ags.length) f ags.length).take (k + 1))) = (idleL ags f ((canTo ags (usedAll ags.length) f ags.length).take k)) := by rw [List.take_add_one, hci]; exact (idleL_snoc _ _ _ _).trans (by rw [hxd, if_neg (by omega), List.append_nil])
      refine ex_round (k + 1, A1, c1) (by (try dsimp only); omega) (by (try dsimp only); omega) (by (try dsimp only); (try rw [e]); repeat (first | exact Sub.nil _ | refine Sub.cons rfl ?_)) (by (try dsimp only); (try rw [e]); repeat (first | exact List.Sublist.refl _ | exact List.nil_sublist _ | refine List.Sublist.cons_cons _ ?_ | refine List.Sublist.cons _ ?_))
  · skip
    obtain rfl : k = (canTo ags (usedAll ags.length) f ags.length).length := by omega
    rw [List.take_length]
    refine cod_exit ?_
    refine ex_then_exit ?_
    refine ex_then_exit ?_
    refine ex_block_exit ?_
    refine ex_then ?_
    refine cod_seq ?_
    refine cod_region ?_
    refine lst_move rfl rfl ?_
    refine lst_assign rfl rfl ?_
    refine lst_store rfl rfl F.ti35 rfl ?_
    refine lst_nil ?_
    refine ex_then ?_
    refine cod_ret ?_
    exact ex_ret_caught (fun a w ha => ⟨_, res_tc (fn := Tryd.f48) ha rfl rfl rfl F.one35, A1, c1, rfl, ha.grown sbl⟩)

end Go.Proofs.YtofkhehcnfiopaaDoor.N
namespace Go.Proofs.YtofkhehcnfiopaaDoor.N
open Go Go.RowKit Go.Proofs
set_option linter.unusedSectionVars false
variable [I : Sys]
/-! What is asked of whatever agents: the program and the reference answer alike. -/
theorem grew_nil {w w' : World} (h : Grew w w' []) : Grew w w' [.row 3 1 none ([] : List Nat).length 0 (ints [])] :=
  ⟨h.1, fun r hr => by simp at hr; subst hr; exact ⟨rfl, .inl ⟨rfl, rfl⟩⟩, List.nodup_nil⟩
def Says (w : World) (L : List Nat) (E : Nat) (e : Ending) (w' : World) : Prop := ∃ (A' : Option Addr) (c' : Nat), e = .returned (.tuple #[.slice A' L.length c', .int .i64 (E : Int)]) ∧ Grew w w' [.row 3 1 A' L.length c' (ints L)]
theorem Says.nil {w w' : World} {E : Nat} {e : Ending} (h : e = .returned (.tuple #[.slice none 0 0, .int .i64 (E : Int)]) ∧ Grew w w' []) : Says w [] E e w' := ⟨none, 0, h.1, grew_nil h.2⟩
/-- What Put answers. -/
def putR (l : List RA) (m : Int) (way : List Int) : List Nat × Nat :=
  if askedR l m 0 = 0 then (if 20 < way.length then ([], 6) else match alongE (agsOf l) m.toNat way with | .ok o => (o, 0) | .error c => ([], c)) else ([], askedR l m 0)
theorem PutS.is {l : List RA} {f E : Nat} {way : List Int} {outs : List Nat} (h0 : askedR l (f : Int) 0 = 0) (h : PutS (agsOf l) f way outs E) : putR l (f : Int) way = (outs, E) := by
  unfold putR
  rw [if_pos h0, Int.toNat_natCast]
  rcases h with ⟨h1, h2, h3, _⟩ | ⟨h1, h2, _, h4⟩ | ⟨h1, h2, h3⟩
  · rw [if_neg (by omega), h2, h3]
  · rw [if_neg (by omega), h2, h4]
  · rw [if_pos h1, h2, h3]
end Go.Proofs.YtofkhehcnfiopaaDoor.N
namespace Go.Proofs.YtofkhehcnfiopaaDoor.N
open Go Go.RowKit Go.Proofs
set_option linter.unusedSectionVars false
variable [I : Sys]
/-- A number of 64 bits. -/
def W64 (n : Int) : Prop := -9223372036854775808 ≤ n ∧ n ≤ 9223372036854775807
structure RA.wf (a : RA) : Prop where
  needs : W64 a.needs
  no : W64 a.no
  takes : W64 a.takes
  leaves : W64 a.leaves
  cost : W64 a.cost
end Go.Proofs.YtofkhehcnfiopaaDoor.N
namespace Go.Proofs.YtofkhehcnfiopaaDoor.N
open Go Go.RowKit Go.Proofs
set_option linter.unusedSectionVars false
variable [I : Sys]
theorem Rds.ag {C : Ctx} {T : List Res} {A : Option Addr} {l : List RA} (hc : checkR l = 0) (h : Rds RA.cells 5 C T A l) : Rds Ag.cells 5 C T A (agsOf l) :=
  fun C' fr hp a w ha h1 h2 h3 hm => (h C' fr hp a w ha h1 h2 h3 hm).ag hc
theorem Rds.sub {α : Type} {cells : α → List Value} {size : Nat} {C : Ctx} {T T' : List Res} {A : Option Addr} {l : List α} (h : Rds cells size C T A l) (hs : ∀ r ∈ T, r ∈ T') : Rds cells size C T' A l :=
  fun C' fr hp a w ha h1 h2 h3 hm => h C' fr hp a w ha h1 h2 h3 (fun r hr => hm r (hs r hr))
end Go.Proofs.YtofkhehcnfiopaaDoor.N
namespace Go.Proofs.YtofkhehcnfiopaaDoor.N
open Go Go.RowKit Go.Proofs
set_option linter.unusedSectionVars false
variable [I : Sys]
theorem F.ent48 : Enters Tryd.prog 48 := enters_of Tryd.func48 rfl (by kernel_rfl)
end Go.Proofs.YtofkhehcnfiopaaDoor.N
namespace Go.Proofs.YtofkhehcnfiopaaDoor.N
open Go Go.RowKit Go.Proofs
set_option linter.unusedSectionVars false
variable [I : Sys]
section
variable {C : Ctx} {fr : List (Nat × Value)} {hp : List Res} {a : Act} {w : World} {ops : Array Oper} {Q : Exit → Act → World → Prop} {rest : List Oper}
  {d : Nat} {ty : TypeId} {pos : String} {after : Array Edge}
theorem ints_zeros : ∀ n : Nat, ints (List.replicate n 0) = List.replicate n (.int .i64 0)
  | 0 => rfl
  | n + 1 => by rw [List.replicate_succ, List.replicate_succ, ← ints_zeros n]; rfl
theorem madeCells_ints (n : Nat) : madeCells (Value.int .i64 0).cells n = (ints (List.replicate n 0)).toArray := by
  rw [ints_zeros]
  unfold madeCells
  apply Array.toList_inj.1
  apply List.ext_getElem?
  intro i
  by_cases hi : i < n
  · simp [Value.cells, hi, Nat.mod_one]
  · simp [Value.cells, hi]
end
end Go.Proofs.YtofkhehcnfiopaaDoor.N
namespace Go.Proofs.YtofkhehcnfiopaaDoor.N
open Go Go.RowKit Go.Proofs
set_option linter.unusedSectionVars false
variable [I : Sys]
/-! How many agents the shortest ways have: what rounds that go on in place come to. -/
def farN : Nat := 1048576
variable {ags : List Ag} {used p : Nat}
structure RI (ags : List Ag) (used p r m i : Nat) (L : List Nat) : Prop where
  len : L.length = 64
  le : ∀ f, f < 64 → L.getD f 0 ≤ farN
  snd : ∀ f, f < 64 → L.getD f 0 < farN → ∃ c, Wy ags used p f c (L.getD f 0)
  cmp : ∀ f, f < 64 → ∀ c k, Wy ags used p f c k → (k ≤ r ∨ (k ≤ r + 1 ∧ f < m)) → L.getD f 0 ≤ k
  cur : ∀ j, j < i → j ∈ canTo ags used m ags.length → ∀ c k, Wy ags used p (putN (ags.getD j default) m) c k → k ≤ r → L.getD m 0 ≤ k + 1
/-- What the rounds begin with. -/
def initN (p k : Nat) : List Nat := (List.range 64).map fun f => if f < k then (if nn f p = 0 then 0 else farN) else 0
theorem initN_len (p k : Nat) : (initN p k).length = 64 := by simp [initN]
theorem getN_set {L : List Nat} {f g x : Nat} (hf : f < L.length) : (L.set f x).getD g 0 = if f = g then x else L.getD g 0 := by
  rw [List.getD_eq_getElem?_getD, List.getElem?_set, List.getD_eq_getElem?_getD]
  by_cases e : f = g
  · subst e
    rw [if_pos rfl, if_pos rfl, if_pos hf]; rfl
  · rw [if_neg e, if_neg e]
theorem initN_getD {p f : Nat} (hf : f < 64) : (initN p 64).getD f 0 = if nn f p = 0 then 0 else farN := by
  simp [initN, List.getD_eq_getElem?_getD, hf]
theorem RI.start : RI ags used p 0 0 0 (initN p 64) where
  len := initN_len p 64
  le f hf := by rw [initN_getD hf]; split <;> simp [farN]
  snd f hf h := by
    rw [initN_getD hf] at h ⊢
    by_cases h0 : nn f p = 0
    · rw [if_pos h0]; exact ⟨0, .done h0⟩
    · rw [if_neg h0] at h; exact absurd h (Nat.lt_irrefl _)
  cmp f hf c k h hk := by
    have hk0 : k = 0 := by omega
    subst hk0
    rw [initN_getD hf]
    cases h with
    | done h0 => rw [if_pos h0]; exact Nat.le_refl _
  cur j hj := absurd hj (Nat.not_lt_zero _)
theorem RI.skip {r m i : Nat} {L : List Nat} (h : RI ags used p r m i L) (hi : i ∉ canTo ags used m ags.length) : RI ags used p r m (i + 1) L :=
  { h with
    cur := fun j hj hc => by
      rcases Nat.lt_succ_iff_lt_or_eq.1 hj with h1 | rfl
      · exact h.cur j h1 hc
      · exact absurd hc hi }
theorem RI.put {r m i : Nat} {L : List Nat} (hok : Oks ags) (h : RI ags used p r m i L) (hm : m < 64) (hi : i ∈ canTo ags used m ags.length) :
    RI ags used p r m (i + 1) (L.set m (min (L.getD m 0) (1 + L.getD (putN (ags.getD i default) m) 0))) := by
  have hil := (can_mem.1 hi).1
  have hxo : (ags.getD i default).ok := hok.2 _ (by rw [List.getD_eq_getElem?_getD, List.getElem?_eq_getElem hil]; exact List.getElem_mem hil)
  have hg : putN (ags.getD i default) m < 64 := putN_lt hxo hm
  have hml : m < L.length := by rw [h.len]; exact hm
  have dec : ∀ f, (L.set m (min (L.getD m 0) (1 + L.getD (putN (ags.getD i default) m) 0))).getD f 0 ≤ L.getD f 0 := fun f => by
    rw [getN_set hml]
    by_cases e : m = f
    · subst e; rw [if_pos rfl]; exact Nat.min_le_left _ _
    · rw [if_neg e]; exact Nat.le_refl _
  refine ⟨by rw [List.length_set]; exact h.len, fun f hf => Nat.le_trans (dec f) (h.le f hf), fun f hf hlt => ?_, fun f hf c k hw hk => Nat.le_trans (dec f) (h.cmp f hf c k hw hk), fun j hj hc c k hw hk => ?_⟩
  · rw [getN_set hml] at hlt ⊢
    by_cases e : m = f
    · subst e
      rw [if_pos rfl] at hlt ⊢
      rcases Nat.le_total (L.getD m 0) (1 + L.getD (putN (ags.getD i default) m) 0) with h1 | h1
      · rw [Nat.min_eq_left h1] at hlt ⊢
        exact h.snd m hm hlt
      · rw [Nat.min_eq_right h1] at hlt ⊢
        obtain ⟨c, hc⟩ := h.snd _ hg (by omega)
        rw [Nat.add_comm]
        exact ⟨_, .step hi hc⟩
    · rw [if_neg e] at hlt ⊢
      exact h.snd f hf hlt
  · rcases Nat.lt_succ_iff_lt_or_eq.1 hj with h1 | rfl
    · exact Nat.le_trans (dec m) (h.cur j h1 hc c k hw hk)
    · rw [getN_set hml, if_pos rfl]
      have := h.cmp _ hg c k hw (.inl hk)
      omega
theorem RI.next {r m : Nat} {L : List Nat} (h : RI ags used p r m ags.length L) (hm : m < 64) : RI ags used p r (m + 1) 0 L :=
  { h with
    cmp := fun f hf c k hw hk => by
      by_cases h0 : k ≤ r ∨ (k ≤ r + 1 ∧ f < m)
      · exact h.cmp f hf c k hw h0
      · have hfm : f = m := by omega
        subst hfm
        cases hw with
        | done h1 => exact h.cmp f hf 0 0 (.done h1) (.inl (Nat.zero_le _))
        | step hi hw' => exact h.cur _ (can_mem.1 hi).1 hi _ _ hw' (by omega)
    cur := fun j hj => absurd hj (Nat.not_lt_zero _) }
theorem RI.round {r : Nat} {L : List Nat} (h : RI ags used p r 64 0 L) : RI ags used p (r + 1) 0 0 L :=
  { h with
    cmp := fun f hf c k hw hk => h.cmp f hf c k hw (by omega)
    cur := fun j hj => absurd hj (Nat.not_lt_zero _) }
/-- What the reference's numbers say of each melt. -/
structure Dst (ags : List Ag) (used p : Nat) (L : List Nat) : Prop where
  len : L.length = 64
  far : ∀ f, f < 64 → (L.getD f 0 = farN ↔ ¬ Clr ags used p f)
  way : ∀ f, f < 64 → L.getD f 0 ≠ farN → L.getD f 0 ≤ 63 ∧ (∃ c, Wy ags used p f c (L.getD f 0)) ∧ ∀ c k, Wy ags used p f c k → L.getD f 0 ≤ k
theorem RI.dst {L : List Nat} (hok : Oks ags) (h : RI ags used p 64 0 0 L) : Dst ags used p L := by
  have short : ∀ f, f < 64 → Clr ags used p f → L.getD f 0 ≤ 63 ∧ ∀ c k, Wy ags used p f c k → L.getD f 0 ≤ k := fun f hf ⟨c, k, hw⟩ => by
    obtain ⟨c', k', ho⟩ := Opt.ex hw
    have h63 := Opt.short hok hf ho
    have h1 := h.cmp f hf _ _ ho.1 (.inl (by omega))
    refine ⟨by omega, fun c2 k2 hw2 => ?_⟩
    by_cases h2 : k2 ≤ 64
    · exact h.cmp f hf c2 k2 hw2 (.inl h2)
    · omega
  have far_ : ∀ f, f < 64 → (L.getD f 0 = farN ↔ ¬ Clr ags used p f) := fun f hf => by
    constructor
    · intro e hc
      have := (short f hf hc).1
      rw [e] at this
      simp [farN] at this
    · intro hc
      have h1 := h.le f hf
      by_cases e : L.getD f 0 = farN
      · exact e
      · obtain ⟨c, hw⟩ := h.snd f hf (by omega)
        exact absurd ⟨c, _, hw⟩ hc
  refine ⟨h.len, far_, fun f hf hne => ?_⟩
  obtain ⟨c, hw⟩ := h.snd f hf (by have := h.le f hf; omega)
  have := short f hf ⟨c, _, hw⟩
  exact ⟨this.1, ⟨c, hw⟩, this.2⟩
theorem RI.same {r m i f : Nat} {L : List Nat} (h : RI ags used p r m i L) (hf : f < 64) : L.set f (min (L.getD f 0) farN) = L := by
  rw [Nat.min_eq_left (h.le f hf)]
  apply List.ext_getElem?
  intro g
  rw [List.getElem?_set]
  by_cases e : f = g
  · subst e
    have : f < L.length := by rw [h.len]; exact hf
    rw [if_pos rfl, if_pos this, List.getD_eq_getElem?_getD, List.getElem?_eq_getElem this]; rfl
  · rw [if_neg e]
end Go.Proofs.YtofkhehcnfiopaaDoor.N
