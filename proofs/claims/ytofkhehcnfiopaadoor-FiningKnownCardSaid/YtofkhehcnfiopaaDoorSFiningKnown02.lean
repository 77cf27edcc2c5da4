/- Parts of the walks of the laws on fining, those that FiningKnown needs: F1, Sx2, Sq, Sx3, F2, Team, Sx4, F3, Bfs. -/
import Derived.Test.YtofkhehcnfiopaaDoorSFiningKnown01
import Derived.Test.YtofkhehcnfiopaaDoorProg
import Derived.ScopeJumps
import Derived.DeepKeys3
namespace Go.Proofs.YtofkhehcnfiopaaDoor.N
open Go Go.RowKit Go.Proofs
set_option linter.unusedSectionVars false
variable [I : Sys]
theorem F.agg24 : aggB Tryd.prog 24 = true := by unfold aggB; rw [Tryd.underlying24]
theorem F.agg89 : aggB Tryd.prog 89 = true := by unfold aggB; rw [Tryd.underlying89]
theorem F.ent110 : Enters Tryd.prog 110 := enters_of Tryd.func110 rfl (by kernel_rfl)
theorem F.ent85 : Enters Tryd.prog 85 := enters_of Tryd.func85 rfl (by kernel_rfl)
theorem F.ent98 : Enters Tryd.prog 98 := enters_of Tryd.func98 rfl (by kernel_rfl)
theorem F.ent99 : Enters Tryd.prog 99 := enters_of Tryd.func99 rfl (by kernel_rfl)
theorem F.fi24_0 : FI Tryd.prog 24 0 3 0 := ⟨_, _, Tryd.underlying24, rfl, rfl, rfl⟩
theorem F.fi24_1 : FI Tryd.prog 24 1 3 1 := ⟨_, _, Tryd.underlying24, rfl, rfl, rfl⟩
theorem F.fi24_2 : FI Tryd.prog 24 2 3 2 := ⟨_, _, Tryd.underlying24, rfl, rfl, rfl⟩
theorem F.fi24_3 : FI Tryd.prog 24 3 3 3 := ⟨_, _, Tryd.underlying24, rfl, rfl, rfl⟩
theorem F.fi24_4 : FI Tryd.prog 24 4 3 4 := ⟨_, _, Tryd.underlying24, rfl, rfl, rfl⟩
theorem F.fi75_0 : FI Tryd.prog 75 0 72 0 := ⟨_, _, Tryd.underlying75, rfl, rfl, rfl⟩
theorem F.fi75_1 : FI Tryd.prog 75 1 73 1 := ⟨_, _, Tryd.underlying75, rfl, rfl, rfl⟩
theorem F.fi89_0 : FI Tryd.prog 89 0 24 0 := ⟨_, _, Tryd.underlying89, rfl, rfl, rfl⟩
theorem F.one3 : One Tryd.prog 3 := ⟨by unfold aggB; rw [Tryd.underlying3], by rw [Tryd.underlying3]; simp⟩
theorem F.one72 : One Tryd.prog 72 := ⟨by unfold aggB; rw [Tryd.underlying72], by rw [Tryd.underlying72]; simp⟩
theorem F.one73 : One Tryd.prog 73 := ⟨by unfold aggB; rw [Tryd.underlying73], by rw [Tryd.underlying73]; simp⟩
theorem F.ti24 : TI Tryd.prog 24 (.agg [.int .i64 0, .int .i64 0, .int .i64 0, .int .i64 0, .int .i64 0].toArray) 5 40 := TI.of (by kernel_rfl)
theorem F.ti3 : TI Tryd.prog 3 (.int .i64 0) 1 8 := TI.of (by kernel_rfl)
theorem F.ti72 : TI Tryd.prog 72 (.slice none 0 0) 1 24 := TI.of (by kernel_rfl)
theorem F.ti73 : TI Tryd.prog 73 (.int .u8 0) 1 1 := TI.of (by kernel_rfl)
theorem F.ti89 : TI Tryd.prog 89 (.agg [.int .i64 0, .int .i64 0, .int .i64 0, .int .i64 0, .int .i64 0].toArray) 5 40 := TI.of (by kernel_rfl)
theorem clear_c (f p : Nat) (hf : f < 256) (hp : p < 256) (w : World) : Calls Tryd.prog 81 #[.int .u8 (f : Int), .int .u8 (p : Int)] w fun e w' => e = .returned (.bool (decide (nn f p = 0))) ∧ Grew w w' [] := by
  refine enter (N := 9) [(0, .int .u8 (f : Int)), (1, .int .u8 (p : Int))] Tryd.func81 rfl Tryd.ntmps81 rfl rfl ?_
  refine cod_seq ?_
  refine cod_region ?_
  refine lst_assign rfl rfl ?_
  refine lst_nil ?_
  refine ex_then ?_
  refine cod_seq ?_
  refine cod_region ?_
  refine lst_move rfl rfl ?_
  refine lst_move rfl rfl ?_
  refine lst_int rfl rfl rfl (fun w => bin_andNot w (u8_andNot _ _ hf hp)) ?_
  refine lst_int rfl rfl rfl bin_eql ?_
  refine lst_assign rfl rfl ?_
  refine lst_nil ?_
  refine ex_then ?_
  refine cod_ret ?_
  refine ex_ret rfl (fun a w ha => res_one rfl rfl ha) (fun a w ha => ?_)
  exact ⟨by rw [dec_zero], ha.grown (List.nil_sublist _)⟩

theorem set_has_c (s i : Nat) (hs : s < 256) (w : World) : Calls Tryd.prog 110 #[.int .u8 (s : Int), .int .i64 (i : Int)] w fun e w' => e = .returned (.bool (s.testBit i)) ∧ Grew w w' [] := by
  have hs1 : s >>> (min i 8) < 256 := Nat.lt_of_le_of_lt (by rw [Nat.shiftRight_eq_div_pow]; exact Nat.div_le_self _ _) hs
  refine enter (N := 10) [(0, .int .u8 (s : Int)), (1, .int .i64 (i : Int))] Tryd.func110 rfl Tryd.ntmps110 rfl rfl ?_
  refine cod_seq ?_
  refine cod_region ?_
  refine lst_assign rfl rfl ?_
  refine lst_nil ?_
  refine ex_then ?_
  refine cod_seq ?_
  refine cod_region ?_
  refine lst_move rfl rfl ?_
  refine lst_move rfl rfl ?_
  refine lst_shr rfl rfl rfl (by omega) (fdiv_shr _ _ _) ?_
  refine lst_int rfl rfl rfl (fun w => bin_and w (u8_and _ 1 hs1 (by omega))) ?_
  refine lst_int rfl rfl rfl bin_eql ?_
  refine lst_assign rfl rfl ?_
  refine lst_nil ?_
  refine ex_then ?_
  refine cod_ret ?_
  refine ex_ret rfl (fun a w ha => res_one rfl rfl ha) (fun a w ha => ?_)
  exact ⟨by rw [← bit_test s i 8 hs]; rfl, ha.grown (List.nil_sublist _)⟩

theorem may_c (a : Ag) (f : Nat) (ha : a.ok) (hf : f < 256) (w : World) : Calls Tryd.prog 85 #[.agg [.int .i64 (a.needs : Int), .int .i64 (a.no : Int), .int .i64 (a.takes : Int), .int .i64 (a.leaves : Int), .int .i64 (a.cost : Int)].toArray, .int .u8 (f : Int)] w fun e w' => e = .returned (.bool (mayN a f)) ∧ Grew w w' [] := by
  have h1 := ha.needs; have h2 := ha.no; clear ha
  refine enter (N := 21) [(0, .agg [.int .i64 (a.needs : Int), .int .i64 (a.no : Int), .int .i64 (a.takes : Int), .int .i64 (a.leaves : Int), .int .i64 (a.cost : Int)].toArray), (1, .int .u8 (f : Int))] Tryd.func85 rfl Tryd.ntmps85 rfl rfl ?_
  refine cod_seq ?_
  refine cod_region ?_
  refine lst_box rfl rfl ?_
  intro b2
  refine lst_assign rfl rfl ?_
  refine lst_nil ?_
  refine ex_then ?_
  refine cod_seq ?_
  refine cod_region ?_
  refine lst_cut1 16 20 (.bool (mayN a f)) ?_ ?_
  · skip
    refine lst_field_z rfl rfl F.fi89_0 F.ti24 ?_
    refine lst_field_z rfl rfl F.fi24_0 F.ti3 ?_
    refine lst_load rfl rfl F.one3 ?_
    refine lst_convert rfl rfl Tryd.underlying3 Tryd.underlying77 (wrap_u8 _ (by omega)) ?_
    refine lst_move rfl rfl ?_
    refine lst_int rfl rfl rfl (fun w => bin_andNot w (u8_andNot _ _ (by omega) hf)) ?_
    refine lst_int rfl rfl rfl bin_eql ?_
    refine lst_move rfl rfl ?_
    refine lst_split (t := 12) rfl (fun hg12 => ?_) (fun hg12 => ?_)
    · skip
      refine lst_on rfl rfl ?_
      refine lst_field_z rfl rfl F.fi89_0 F.ti24 ?_
      refine lst_on rfl rfl ?_
      refine lst_field_z rfl rfl F.fi24_1 F.ti3 ?_
      refine lst_on rfl rfl ?_
      refine lst_load rfl rfl F.one3 ?_
      refine lst_on rfl rfl ?_
      refine lst_convert rfl rfl Tryd.underlying3 Tryd.underlying77 (wrap_u8 _ (by omega)) ?_
      refine lst_on rfl rfl ?_
      refine lst_move rfl rfl ?_
      refine lst_on rfl rfl ?_
      refine lst_int rfl rfl rfl (fun w => bin_and w (u8_and _ _ (by omega) hf)) ?_
      refine lst_on rfl rfl ?_
      refine lst_int rfl rfl rfl bin_eql ?_
      refine lst_pick_true rfl rfl rfl ?_
      refine lst_nil ?_
      exact ex_cut (.cons (by first | (simp [look, mayN] at *; simp [*]) | (simp [look, mayN] at *; omega)) (by repeat (first | exact Sub.nil _ | refine Sub.cons rfl ?_))) (by repeat (first | exact List.Sublist.refl _ | exact List.nil_sublist _ | refine List.Sublist.cons_cons _ ?_ | refine List.Sublist.cons _ ?_))
    · skip
      refine lst_off rfl rfl rfl ?_
      refine lst_off rfl rfl rfl ?_
      refine lst_off rfl rfl rfl ?_
      refine lst_off rfl rfl rfl ?_
      refine lst_off rfl rfl rfl ?_
      refine lst_off rfl rfl rfl ?_
      refine lst_off rfl rfl rfl ?_
      refine lst_pick_false rfl rfl rfl ?_
      refine lst_nil ?_
      exact ex_cut (.cons (by first | (simp [look, mayN] at *; simp [*]) | (simp [look, mayN] at *; omega)) (by repeat (first | exact Sub.nil _ | refine Sub.cons rfl ?_))) (by repeat (first | exact List.Sublist.refl _ | exact List.nil_sublist _ | refine List.Sublist.cons_cons _ ?_ | refine List.Sublist.cons _ ?_))
  refine lst_assign rfl rfl ?_
  refine lst_nil ?_
  refine ex_then ?_
  refine cod_ret ?_
  refine ex_ret rfl (fun a w ha => res_one rfl rfl ha) (fun a w ha => ?_)
  exact ⟨by rfl, ha.grown (List.nil_sublist _)⟩

theorem put_c (a : Ag) (f : Nat) (ha : a.ok) (hf : f < 256) (w : World) : Calls Tryd.prog 91 #[.agg [.int .i64 (a.needs : Int), .int .i64 (a.no : Int), .int .i64 (a.takes : Int), .int .i64 (a.leaves : Int), .int .i64 (a.cost : Int)].toArray, .int .u8 (f : Int)] w fun e w' => e = .returned (.int .u8 (putN a f : Nat)) ∧ Grew w w' [] := by
  have h1 := ha.takes; have h2 := ha.leaves; clear ha
  refine enter (N := 16) [(0, .agg [.int .i64 (a.needs : Int), .int .i64 (a.no : Int), .int .i64 (a.takes : Int), .int .i64 (a.leaves : Int), .int .i64 (a.cost : Int)].toArray), (1, .int .u8 (f : Int))] Tryd.func91 rfl Tryd.ntmps91 rfl rfl ?_
  refine cod_seq ?_
  refine cod_region ?_
  refine lst_box rfl rfl ?_
  intro b2
  refine lst_assign rfl rfl ?_
  refine lst_nil ?_
  refine ex_then ?_
  refine cod_seq ?_
  refine cod_region ?_
  refine lst_move rfl rfl ?_
  refine lst_field_z rfl rfl F.fi89_0 F.ti24 ?_
  refine lst_field_z rfl rfl F.fi24_2 F.ti3 ?_
  refine lst_load rfl rfl F.one3 ?_
  refine lst_convert rfl rfl Tryd.underlying3 Tryd.underlying77 (wrap_u8 _ (by omega)) ?_
  refine lst_int rfl rfl rfl (fun w => bin_andNot w (u8_andNot _ _ hf (by omega))) ?_
  refine lst_field_z rfl rfl F.fi89_0 F.ti24 ?_
  refine lst_field_z rfl rfl F.fi24_3 F.ti3 ?_
  refine lst_load rfl rfl F.one3 ?_
  refine lst_convert rfl rfl Tryd.underlying3 Tryd.underlying77 (wrap_u8 _ (by omega)) ?_
  refine lst_int rfl rfl rfl (fun w => bin_or w (u8_or _ _ (show _ < 2 ^ 8 from nn_lt hf) (by omega))) ?_
  refine lst_assign rfl rfl ?_
  refine lst_nil ?_
  refine ex_then ?_
  refine cod_ret ?_
  refine ex_ret rfl (fun a w ha => res_one rfl rfl ha) (fun a w ha => ?_)
  exact ⟨by rfl, ha.grown (List.nil_sublist _)⟩

theorem can_c (A : Option Addr) (cp : Nat) (ags : List Ag) (used f : Nat) (hok : Oks ags) (hu : used < 256) (hf : f < 256) (w : World) (hA : RdL Ag.cells 5 w A ags) : Calls Tryd.prog 89 #[.agg [.slice A ags.length cp, .int .u8 (used : Int)].toArray, .int .u8 (f : Int)] w fun e w' => ∃ A c, e = .returned (.slice A (canTo ags used f ags.length).length c) ∧ Grew w w' [.row 3 1 A (canTo ags used f ags.length).length c (ints (canTo ags used f ags.length))] := by
  refine enter (N := 31) [(0, .agg [.slice A ags.length cp, .int .u8 (used : Int)].toArray), (1, .int .u8 (f : Int))] Tryd.func89 rfl Tryd.ntmps89 rfl rfl ?_
  refine cod_seq ?_
  refine cod_region ?_
  refine lst_box rfl rfl ?_
  intro b2
  refine lst_assign rfl rfl ?_
  refine lst_nil ?_
  refine ex_then ?_
  refine cod_seq ?_
  refine cod_region ?_
  refine lst_assign rfl rfl ?_
  refine lst_nil ?_
  refine ex_then ?_
  refine cod_seq ?_
  refine cod_seq ?_
  refine cod_region ?_
  refine lst_field_z rfl rfl F.fi75_0 F.ti72 ?_
  refine lst_load rfl rfl F.one72 ?_
  refine lst_len rfl rfl Tryd.underlying72 ?_
  refine lst_move rfl rfl ?_
  refine lst_nil ?_
  refine ex_then ?_
  refine cod_block ?_
  refine cod_nil 3 1 ?_
  refine cod_loop (G := Nat × Option Addr × Nat) (fun g => g.1 ≤ ags.length) (fun g => ags.length - g.1) (fun g => [(0, .agg [.slice A ags.length cp, .int .u8 (used : Int)].toArray), (1, .int .u8 (f : Int)), (2, .pointer (some ⟨b2, 0, none⟩)), (5, .slice g.2.1 (canTo ags used f g.1).length g.2.2), (9, .slice A ags.length cp), (10, .int .i64 (ags.length : Int)), (11, .int .i64 (g.1 : Int))]) (fun g => [.row 3 1 g.2.1 (canTo ags used f g.1).length g.2.2 (ints (canTo ags used f g.1)), .blk b2 (.cells [.slice A ags.length cp, .int .u8 (used : Int)].toArray 75 (0, 0))]) (0, none, 0) (Nat.zero_le _) (by repeat (first | exact Sub.nil _ | refine Sub.cons rfl ?_)) (by repeat (first | exact List.Sublist.refl _ | exact List.nil_sublist _ | refine List.Sublist.cons_cons _ ?_ | refine List.Sublist.cons _ ?_)) ?_
  rintro ⟨k, A', c'⟩ hk
  dsimp only at hk ⊢
  refine cod_seq ?_
  refine cod_region ?_
  refine lst_int rfl rfl rfl bin_lss ?_
  refine lst_nil ?_
  refine ex_then ?_
  refine cod_seq ?_
  refine cod_cond_dec rfl (fun hc0 => ?_) (fun hc0 => ?_)
  · skip
    have hk' : k < ags.length := by omega
    obtain ⟨b, o, rfl, hb, hcell⟩ := hA (by omega)
    obtain ⟨x, hx⟩ : ∃ x, ags[k]? = some x := ⟨_, List.getElem?_eq_getElem hk'⟩
    have hxo : x.ok := hok.2 x (List.mem_of_getElem? hx)
    have hxd : ags.getD k default = x := by rw [List.getD_eq_getElem?_getD, hx]; rfl
    refine cod_skip ?_
    refine ex_then ?_
    refine cod_seq ?_
    refine cod_block ?_
    refine cod_seq ?_
    refine cod_region ?_
    refine lst_move rfl rfl ?_
    refine lst_index (j := k) rfl rfl rfl Tryd.underlying72 F.ti89 rfl hk' ?_
    refine lst_loadN_at (l := [.int .i64 (x.needs : Int), .int .i64 (x.no : Int), .int .i64 (x.takes : Int), .int .i64 (x.leaves : Int), .int .i64 (x.cost : Int)]) rfl rfl F.agg89 F.ti89 rfl (fun a w ha j u hu => ha.old (hcell k x hx j u hu) hb) ?_
    refine lst_alloc rfl F.ti89 ?_
    intro b7
    refine lst_assign rfl rfl ?_
    refine lst_store rfl rfl F.ti89 rfl ?_
    refine lst_nil ?_
    refine ex_then ?_
    refine cod_seq ?_
    refine cod_region ?_
    refine lst_cut1 9 24 (.bool (used.testBit k && mayN x f)) ?_ ?_
    · skip
      refine lst_field_z rfl rfl F.fi75_1 F.ti73 ?_
      refine lst_load rfl rfl F.one73 ?_
      refine lst_move rfl rfl ?_
      refine lst_fn0 (vs := [_, _]) rfl rfl F.ent110 (fun a w ha => set_has_c _ _ hu w) ?_
      refine lst_move rfl rfl ?_
      refine lst_split_bool (t := 20) rfl (fun hg20 => ?_) (fun hg20 => ?_)
      · skip
        refine lst_on rfl rfl ?_
        refine lst_loadN rfl rfl F.agg89 F.ti89 ?_
        refine lst_on rfl rfl ?_
        refine lst_move rfl rfl ?_
        refine lst_on rfl rfl ?_
        refine lst_fn0 (vs := [_, _]) rfl rfl F.ent85 (fun a w ha => may_c x f hxo hf w) ?_
        refine lst_pick_true rfl rfl rfl ?_
        refine lst_nil ?_
        exact ex_cut (.cons (by simp [look, *]) (by repeat (first | exact Sub.nil _ | refine Sub.cons rfl ?_))) (by repeat (first | exact List.Sublist.refl _ | exact List.nil_sublist _ | refine List.Sublist.cons_cons _ ?_ | refine List.Sublist.cons _ ?_))
      · skip
        refine lst_off rfl rfl rfl ?_
        refine lst_off rfl rfl rfl ?_
        refine lst_off rfl rfl rfl ?_
        refine lst_pick_false rfl rfl rfl ?_
        refine lst_nil ?_
        exact ex_cut (.cons (by simp [look, *]) (by repeat (first | exact Sub.nil _ | refine Sub.cons rfl ?_))) (by repeat (first | exact List.Sublist.refl _ | exact List.nil_sublist _ | refine List.Sublist.cons_cons _ ?_ | refine List.Sublist.cons _ ?_))
    refine lst_nil ?_
    refine ex_then ?_
    refine cod_cond_bool rfl (fun hc1 => ?_) (fun hc1 => ?_)
    · skip
      refine cod_region ?_
      refine lst_move rfl rfl ?_
      refine lst_move rfl rfl ?_
      refine lst_lit (vs := [(0, _)]) rfl rfl Tryd.underlying25 F.ti3 rfl rfl rfl ?_
      intro b27
      refine lst_append rfl rfl rfl Tryd.underlying25 F.ti3 rfl rfl rfl (by have := canTo_len ags used f k; have := hok.1; unfold maxLen; omega) (by have := canTo_len ags used f k; have := hok.1; omega) ?_
      intro A1 c1
      refine lst_assign rfl rfl ?_
      refine lst_nil ?_
      refine ex_block_normal ?_
      refine ex_then ?_
      refine cod_region ?_
      refine lst_int rfl rfl rfl (fun w => bin_add w (wrap_i64' _ (by omega) (by have := hok.1; omega))) ?_
      refine lst_move rfl rfl ?_
      refine lst_nil ?_
      have e := canTo_succ ags used f k
      rw [hxd, hc1, if_pos rfl] at e
      refine ex_round (k + 1, A1, c1) (by (try dsimp only); omega) (by (try dsimp only); omega) (by (try dsimp only); rw [e]; simp only [List.length_append, List.length_singleton]; repeat (first | exact Sub.nil _ | refine Sub.cons rfl ?_)) (by (try dsimp only); rw [e]; simp only [ints_snoc, List.length_append, List.length_singleton]; repeat (first | exact List.Sublist.refl _ | exact List.nil_sublist _ | refine List.Sublist.cons_cons _ ?_ | refine List.Sublist.cons _ ?_))
    · skip
      refine cod_skip ?_
      refine ex_block_normal ?_
      refine ex_then ?_
      refine cod_region ?_
      refine lst_int rfl rfl rfl (fun w => bin_add w (wrap_i64' _ (by omega) (by have := hok.1; omega))) ?_
      refine lst_move rfl rfl ?_
      refine lst_nil ?_
      have e := canTo_succ ags used f k
      rw [hxd, hc1, if_neg (by simp), List.append_nil] at e
      refine ex_round (k + 1, A', c') (by (try dsimp only); omega) (by (try dsimp only); omega) (by (try dsimp only); rw [e]; repeat (first | exact Sub.nil _ | refine Sub.cons rfl ?_)) (by (try dsimp only); rw [e]; repeat (first | exact List.Sublist.refl _ | exact List.nil_sublist _ | refine List.Sublist.cons_cons _ ?_ | refine List.Sublist.cons _ ?_))
  · skip
    refine cod_exit ?_
    refine ex_then_exit ?_
    refine ex_then_exit ?_
    refine ex_block_exit ?_
    refine ex_then ?_
    refine cod_seq ?_
    refine cod_region ?_
    refine lst_move rfl rfl ?_
    refine lst_assign rfl rfl ?_
    refine lst_nil ?_
    refine ex_then ?_
    refine cod_ret ?_
    have hfin : ags.length = k := by omega
    subst hfin
    refine ex_ret rfl (fun a w ha => res_one rfl rfl ha) (fun a w ha => ⟨A', c', rfl, ha.grown (by repeat (first | exact List.Sublist.refl _ | exact List.nil_sublist _ | refine List.Sublist.cons_cons _ ?_ | refine List.Sublist.cons _ ?_))⟩)

theorem outside_c (n lo hi : Int) (w : World) : Calls Tryd.prog 99 #[.int .i64 (n : Int), .int .i64 (lo : Int), .int .i64 (hi : Int)] w fun e w' => e = .returned (.bool (!(inB n lo hi))) ∧ Grew w w' [] := by
  refine enter (N := 15) [(0, .int .i64 (n : Int)), (1, .int .i64 (lo : Int)), (2, .int .i64 (hi : Int))] Tryd.func99 rfl Tryd.ntmps99 rfl rfl ?_
  refine cod_seq ?_
  refine cod_region ?_
  refine lst_assign rfl rfl ?_
  refine lst_nil ?_
  refine ex_then ?_
  refine cod_seq ?_
  refine cod_region ?_
  refine lst_cut1 8 14 (.bool (!(inB n lo hi))) ?_ ?_
  · skip
    refine lst_move rfl rfl ?_
    refine lst_move rfl rfl ?_
    refine lst_int rfl rfl rfl bin_lss ?_
    refine lst_move rfl rfl ?_
    refine lst_split (t := 10) rfl (fun hg10 => ?_) (fun hg10 => ?_)
    · skip
      refine lst_off rfl rfl rfl ?_
      refine lst_off rfl rfl rfl ?_
      refine lst_off rfl rfl rfl ?_
      refine lst_pick_true rfl rfl rfl ?_
      refine lst_nil ?_
      exact ex_cut (.cons (by refine congrArg (fun b => some (Value.bool b)) ?_; rw [Bool.eq_iff_iff]; simp [inB] <;> omega) (by repeat (first | exact Sub.nil _ | refine Sub.cons rfl ?_))) (by repeat (first | exact List.Sublist.refl _ | exact List.nil_sublist _ | refine List.Sublist.cons_cons _ ?_ | refine List.Sublist.cons _ ?_))
    · skip
      refine lst_on rfl rfl ?_
      refine lst_move rfl rfl ?_
      refine lst_on rfl rfl ?_
      refine lst_move rfl rfl ?_
      refine lst_on rfl rfl ?_
      refine lst_int rfl rfl rfl bin_gtr ?_
      refine lst_pick_false rfl rfl rfl ?_
      refine lst_nil ?_
      exact ex_cut (.cons (by refine congrArg (fun b => some (Value.bool b)) ?_; rw [Bool.eq_iff_iff]; simp [inB] <;> omega) (by repeat (first | exact Sub.nil _ | refine Sub.cons rfl ?_))) (by repeat (first | exact List.Sublist.refl _ | exact List.nil_sublist _ | refine List.Sublist.cons_cons _ ?_ | refine List.Sublist.cons _ ?_))
  refine lst_assign rfl rfl ?_
  refine lst_nil ?_
  refine ex_then ?_
  refine cod_ret ?_
  refine ex_ret rfl (fun a w ha => res_one rfl rfl ha) (fun a w ha => ?_)
  exact ⟨by rfl, ha.grown (List.nil_sublist _)⟩

theorem all_c (A : Option Addr) (c : Nat) (l : List Int) (hlen : l.length ≤ 140737488355328) (w : World) (hA : RdL icell 1 w A l) : Calls Tryd.prog 98 #[.slice A l.length c] w fun e w' => e = .returned (.bool (allB l)) ∧ Grew w w' [] := by
  refine enter (N := 14) [(0, .slice A l.length c)] Tryd.func98 rfl Tryd.ntmps98 rfl rfl ?_
  refine cod_seq ?_
  refine cod_region ?_
  refine lst_assign rfl rfl ?_
  refine lst_nil ?_
  refine ex_then ?_
  refine cod_seq ?_
  refine cod_seq ?_
  refine cod_region ?_
  refine lst_move rfl rfl ?_
  refine lst_len rfl rfl Tryd.underlying25 ?_
  refine lst_move rfl rfl ?_
  refine lst_nil ?_
  refine ex_then ?_
  refine cod_block ?_
  refine cod_loop (G := Nat) (fun k => k ≤ l.length ∧ allB (l.take k) = true) (fun k => l.length - k) (fun k => [(5, .slice A l.length c), (6, .int .i64 (l.length : Int)), (7, .int .i64 (k : Int))]) (fun k => []) 0 ⟨Nat.zero_le _, rfl⟩ (by repeat (first | exact Sub.nil _ | refine Sub.cons rfl ?_)) (by repeat (first | exact List.Sublist.refl _ | exact List.nil_sublist _ | refine List.Sublist.cons_cons _ ?_ | refine List.Sublist.cons _ ?_)) ?_
  intro k hk
  (try dsimp only at hk ⊢)
  refine cod_seq ?_
  refine cod_region ?_
  refine lst_int rfl rfl rfl bin_lss ?_
  refine lst_nil ?_
  refine ex_then ?_
  refine cod_seq ?_
  refine cod_cond_dec rfl (fun hc0 => ?_) (fun hc0 => ?_)
  · skip
    have hk' : k < l.length := by omega
    obtain ⟨b, o, rfl, hb, hcell⟩ := hA (by omega)
    obtain ⟨x, hx⟩ : ∃ x, l[k]? = some x := ⟨_, List.getElem?_eq_getElem hk'⟩
    have htake : l.take (k + 1) = l.take k ++ [x] := by rw [List.take_add_one, hx]; rfl
    refine cod_skip ?_
    refine ex_then ?_
    refine cod_seq ?_
    refine cod_block ?_
    refine cod_seq ?_
    refine cod_region ?_
    refine lst_index (j := k) rfl rfl rfl Tryd.underlying25 F.ti3 rfl hk' ?_
    refine lst_load_at (v := .int .i64 x) rfl rfl F.one3 (fun a w ha => ha.old (hcell k x hx 0 _ rfl) hb) ?_
    refine lst_assign rfl rfl ?_
    refine lst_nil ?_
    refine ex_then ?_
    refine cod_seq ?_
    refine cod_region ?_
    refine lst_move rfl rfl ?_
    refine lst_fn0 (vs := [_, _, _]) rfl rfl F.ent99 (fun a w ha => outside_c x 0 63 w) ?_
    refine lst_nil ?_
    refine ex_then ?_
    refine cod_cond_bool rfl (fun hc1 => ?_) (fun hc1 => ?_)
    · skip
      refine cod_seq ?_
      refine cod_region ?_
      refine lst_assign rfl rfl ?_
      refine lst_nil ?_
      refine ex_then ?_
      refine cod_ret ?_
      refine ex_block_ret ?_
      refine ex_then_ret ?_
      refine ex_then_ret ?_
      refine ex_block_ret ?_
      refine ex_then_ret ?_
      have hf : allB l = false := by
        unfold allB
        rw [List.all_eq_false]
        exact ⟨x, List.mem_of_getElem? hx, by simpa using hc1⟩
      refine ex_ret rfl (fun a w ha => res_one rfl rfl ha) (fun a w ha => ⟨by rw [hf], ha.grown (List.nil_sublist _)⟩)
    · skip
      refine cod_skip ?_
      refine ex_block_normal ?_
      refine ex_then ?_
      refine cod_region ?_
      refine lst_int rfl rfl rfl (fun w => bin_add w (wrap_i64' _ (by omega) (by have := hlen; omega))) ?_
      refine lst_move rfl rfl ?_
      refine lst_nil ?_
      refine ex_round (k + 1) ⟨by omega, by rw [htake]; unfold allB at hk ⊢; rw [List.all_append, hk.2]; simpa using hc1⟩ (by (try dsimp only); omega) (by repeat (first | exact Sub.nil _ | refine Sub.cons rfl ?_)) (by repeat (first | exact List.Sublist.refl _ | exact List.nil_sublist _ | refine List.Sublist.cons_cons _ ?_ | refine List.Sublist.cons _ ?_))
  · skip
    refine cod_exit ?_
    refine ex_then_exit ?_
    refine ex_then_exit ?_
    refine ex_block_exit ?_
    refine ex_then ?_
    refine cod_seq ?_
    refine cod_region ?_
    refine lst_assign rfl rfl ?_
    refine lst_nil ?_
    refine ex_then ?_
    refine cod_ret ?_
    have hf : allB l = true := by
      have := hk.2
      rw [List.take_of_length_le (by omega)] at this
      exact this
    refine ex_ret rfl (fun a w ha => res_one rfl rfl ha) (fun a w ha => ⟨by rw [hf], ha.grown (List.nil_sublist _)⟩)

theorem check_c (A : Option Addr) (c : Nat) (l : List RA) (w : World) (hA : RdL RA.cells 5 w A l) : Calls Tryd.prog 46 #[.slice A l.length c] w fun e w' => e = .returned (.int .i64 ((checkR l : Nat) : Int)) ∧ Grew w w' [] := by
  refine enter (N := 38) [(0, .slice A l.length c)] Tryd.func46 rfl Tryd.ntmps46 rfl rfl ?_
  refine cod_seq ?_
  refine cod_region ?_
  refine lst_assign rfl rfl ?_
  refine lst_nil ?_
  refine ex_then ?_
  refine cod_seq ?_
  refine cod_seq ?_
  refine cod_region ?_
  refine lst_move rfl rfl ?_
  refine lst_len rfl rfl Tryd.underlying22 ?_
  refine lst_int rfl rfl rfl bin_gtr ?_
  refine lst_nil ?_
  refine ex_then ?_
  refine cod_cond_dec rfl (fun hc0 => ?_) (fun hc0 => ?_)
  · skip
    refine cod_seq ?_
    refine cod_region ?_
    refine lst_assign rfl rfl ?_
    refine lst_nil ?_
    refine ex_then ?_
    refine cod_ret ?_
    refine ex_then_ret ?_
    refine ex_ret rfl (fun a w ha => res_one rfl rfl ha) (fun a w ha => ⟨by rw [show checkR l = 6 from if_pos (by omega)]; rfl, ha.grown (List.nil_sublist _)⟩)
  · skip
    have hl4 : l.length ≤ 4 := by omega
    have hcr : checkR l = firstBad l := if_neg (by omega)
    refine cod_skip ?_
    refine ex_then ?_
    refine cod_seq ?_
    refine cod_seq ?_
    refine cod_region ?_
    refine lst_move rfl rfl ?_
    refine lst_len rfl rfl Tryd.underlying22 ?_
    refine lst_move rfl rfl ?_
    refine lst_nil ?_
    refine ex_then ?_
    refine cod_block ?_
    refine cod_loop (G := Nat) (fun k => k ≤ l.length ∧ ∀ y ∈ l.take k, y.bad = 0) (fun k => l.length - k) (fun k => [(8, .slice A l.length c), (9, .int .i64 (l.length : Int)), (10, .int .i64 (k : Int))]) (fun k => []) 0 ⟨Nat.zero_le _, by simp⟩ (by repeat (first | exact Sub.nil _ | refine Sub.cons rfl ?_)) (by repeat (first | exact List.Sublist.refl _ | exact List.nil_sublist _ | refine List.Sublist.cons_cons _ ?_ | refine List.Sublist.cons _ ?_)) ?_
    intro k hk
    (try dsimp only at hk ⊢)
    refine cod_seq ?_
    refine cod_region ?_
    refine lst_int rfl rfl rfl bin_lss ?_
    refine lst_nil ?_
    refine ex_then ?_
    refine cod_seq ?_
    refine cod_cond_dec rfl (fun hc1 => ?_) (fun hc1 => ?_)
    · skip
      have hk' : k < l.length := by omega
      obtain ⟨b, o, rfl, hb, hcell⟩ := hA (by omega)
      obtain ⟨x, hx⟩ : ∃ x, l[k]? = some x := ⟨_, List.getElem?_eq_getElem hk'⟩
      have hpos : x.bad ≠ 0 → checkR l = x.bad := by
        intro hne
        rw [hcr, ← List.take_append_drop k l, firstBad_pre hk.2, List.drop_eq_getElem_cons hk', firstBad]
        have : l[k] = x := by rw [List.getElem?_eq_getElem hk'] at hx; exact Option.some.inj hx
        rw [this, if_pos hne]
      refine cod_skip ?_
      refine ex_then ?_
      refine cod_seq ?_
      refine cod_block ?_
      refine cod_seq ?_
      refine cod_region ?_
      refine lst_index (j := k) rfl rfl rfl Tryd.underlying22 F.ti24 rfl hk' ?_
      refine lst_loadN_at (l := [.int .i64 x.needs, .int .i64 x.no, .int .i64 x.takes, .int .i64 x.leaves, .int .i64 x.cost]) rfl rfl F.agg24 F.ti24 rfl (fun a w ha j u hu => ha.old (hcell k x hx j u hu) hb) ?_
      refine lst_alloc rfl F.ti24 ?_
      intro b4
      refine lst_store rfl rfl F.ti24 rfl ?_
      refine lst_nil ?_
      refine ex_then ?_
      refine cod_block ?_
      refine cod_seq ?_
      refine cod_region ?_
      refine lst_field_z rfl rfl F.fi24_0 F.ti3 ?_
      refine lst_load rfl rfl F.one3 ?_
      refine lst_field_z rfl rfl F.fi24_1 F.ti3 ?_
      refine lst_load rfl rfl F.one3 ?_
      refine lst_field_z rfl rfl F.fi24_2 F.ti3 ?_
      refine lst_load rfl rfl F.one3 ?_
      refine lst_field_z rfl rfl F.fi24_3 F.ti3 ?_
      refine lst_load rfl rfl F.one3 ?_
      refine lst_lit (vs := [(0, _), (1, _), (2, _), (3, _)]) rfl rfl Tryd.underlying25 F.ti3 rfl rfl rfl ?_
      intro b23
      refine lst_fn0 (vs := [_]) rfl rfl F.ent98 (fun a w ha => all_c (some ⟨b23, 0, none⟩) 4 x.four (show (4 : Nat) ≤ _ by decide) w (blk_reads (cells := icell) (size := 1) ha (fun _ => rfl) rfl)) ?_
      refine lst_not rfl rfl ?_
      refine lst_assign rfl rfl ?_
      refine lst_nil ?_
      refine ex_then ?_
      refine cod_cond_bool rfl (fun hc2 => ?_) (fun hc2 => ?_)
      · skip
        refine cod_seq ?_
        refine cod_region ?_
        refine lst_assign rfl rfl ?_
        refine lst_nil ?_
        refine ex_then ?_
        refine cod_ret ?_
        refine ex_block_ret ?_
        refine ex_block_ret ?_
        refine ex_then_ret ?_
        refine ex_then_ret ?_
        refine ex_block_ret ?_
        refine ex_then_ret ?_
        have hb1 : x.bad = 1 := if_pos (by simpa using hc2)
        refine ex_ret rfl (fun a w ha => res_one rfl rfl ha) (fun a w ha => ⟨by rw [hpos (by omega), hb1]; rfl, ha.grown (List.nil_sublist _)⟩)
      · skip
        have h4 : allB x.four = true := by simpa using hc2
        have h4' := h4
        simp only [allB, RA.four, List.all_cons, List.all_nil, Bool.and_true, Bool.and_eq_true, inB_true] at h4'
        obtain ⟨n1, hn1⟩ := Int.eq_ofNat_of_zero_le h4'.1.1
        obtain ⟨n2, hn2⟩ := Int.eq_ofNat_of_zero_le h4'.2.1.1
        have hn1' : n1 < 64 := by omega
        have hn2' : n2 < 64 := by omega
        have hbad : x.bad = if n1 &&& n2 ≠ 0 then 9 else if inB x.cost 1 9 = false then 1 else 0 := by
          unfold RA.bad
          rw [if_neg (by rw [h4]; simp), hn1, hn2, Int.toNat_natCast, Int.toNat_natCast]
        rw [hn1, hn2]
        refine cod_seq ?_
        refine cod_region ?_
        refine lst_field_z rfl rfl F.fi24_0 F.ti3 ?_
        refine lst_load rfl rfl F.one3 ?_
        refine lst_field_z rfl rfl F.fi24_1 F.ti3 ?_
        refine lst_load rfl rfl F.one3 ?_
        refine lst_int rfl rfl rfl (fun w => bin_and w (i64_and n1 n2 (by omega) (by omega))) ?_
        refine lst_int rfl rfl rfl bin_neq ?_
        refine lst_assign rfl rfl ?_
        refine lst_nil ?_
        refine ex_then ?_
        refine cod_cond_dec rfl (fun hc3 => ?_) (fun hc3 => ?_)
        · skip
          refine cod_seq ?_
          refine cod_region ?_
          refine lst_assign rfl rfl ?_
          refine lst_nil ?_
          refine ex_then ?_
          refine cod_ret ?_
          refine ex_block_ret ?_
          refine ex_block_ret ?_
          refine ex_then_ret ?_
          refine ex_then_ret ?_
          refine ex_block_ret ?_
          refine ex_then_ret ?_
          have hb9 : x.bad = 9 := by rw [hbad, if_pos (by omega)]
          refine ex_ret rfl (fun a w ha => res_one rfl rfl ha) (fun a w ha => ⟨by rw [hpos (by omega), hb9]; rfl, ha.grown (List.nil_sublist _)⟩)
        · skip
          have h5 : ¬ (n1 &&& n2 ≠ 0) := by omega
          rw [if_neg h5] at hbad
          refine cod_seq ?_
          refine cod_region ?_
          refine lst_field_z rfl rfl F.fi24_4 F.ti3 ?_
          refine lst_load rfl rfl F.one3 ?_
          refine lst_fn0 (vs := [_, _, _]) rfl rfl F.ent99 (fun a w ha => outside_c x.cost 1 9 w) ?_
          refine lst_assign rfl rfl ?_
          refine lst_nil ?_
          refine ex_then ?_
          refine cod_cond_bool rfl (fun hc4 => ?_) (fun hc4 => ?_)
          · skip
            refine cod_seq ?_
            refine cod_region ?_
            refine lst_assign rfl rfl ?_
            refine lst_nil ?_
            refine ex_then ?_
            refine cod_ret ?_
            refine ex_block_ret ?_
            refine ex_block_ret ?_
            refine ex_then_ret ?_
            refine ex_then_ret ?_
            refine ex_block_ret ?_
            refine ex_then_ret ?_
            have hb1 : x.bad = 1 := by rw [hbad, if_pos (by simpa using hc4)]
            refine ex_ret rfl (fun a w ha => res_one rfl rfl ha) (fun a w ha => ⟨by rw [hpos (by omega), hb1]; rfl, ha.grown (List.nil_sublist _)⟩)
          · skip
            have hb0 : x.bad = 0 := by rw [hbad, if_neg (by simpa using hc4)]
            have htake : l.take (k + 1) = l.take k ++ [x] := by rw [List.take_add_one, hx]; rfl
            refine cod_skip ?_
            refine ex_block_normal ?_
            refine ex_block_normal ?_
            refine ex_then ?_
            refine cod_region ?_
            refine lst_int rfl rfl rfl (fun w => bin_add w (wrap_i64' _ (by omega) (by omega))) ?_
            refine lst_move rfl rfl ?_
            refine lst_nil ?_
            refine ex_round (k + 1) ⟨by omega, by rw [htake]; intro y hy; rcases List.mem_append.1 hy with h | h; exact hk.2 y h; simp at h; subst h; exact hb0⟩ (by (try dsimp only); omega) (by repeat (first | exact Sub.nil _ | refine Sub.cons rfl ?_)) (by repeat (first | exact List.Sublist.refl _ | exact List.nil_sublist _ | refine List.Sublist.cons_cons _ ?_ | refine List.Sublist.cons _ ?_))
    · skip
      refine cod_exit ?_
      refine ex_then_exit ?_
      refine ex_then_exit ?_
      refine ex_block_exit ?_
      refine ex_then ?_
      refine cod_seq ?_
      refine cod_region ?_
      refine lst_assign rfl rfl ?_
      refine lst_nil ?_
      refine ex_then ?_
      refine cod_ret ?_
      have hz : checkR l = 0 := by
        have h := hk.2
        rw [List.take_of_length_le (by omega)] at h
        rw [hcr, ← List.append_nil l, firstBad_pre h]; rfl
      refine ex_ret rfl (fun a w ha => res_one rfl rfl ha) (fun a w ha => ⟨by rw [hz]; rfl, ha.grown (List.nil_sublist _)⟩)

end Go.Proofs.YtofkhehcnfiopaaDoor.N
namespace Go.Proofs.YtofkhehcnfiopaaDoor.N
open Go Go.RowKit Go.Proofs
set_option linter.unusedSectionVars false
variable [I : Sys]

/-! Scopes. -/
section
variable {C : Ctx} {fr : List (Nat × Value)} {hp hp' : List Res} {a : Act} {w : World} {ops : Array Oper} {Q : Exit → Act → World → Prop} {rest : List Oper}
  {d : Nat} {ty : TypeId} {pos : String} {after : Array Edge}
theorem cod_scope {c : Code} (h : Cod C c (Exit.noGoto Q) fr hp) : Cod C (.scope c) Q fr hp := fun a w ha => wp_scope_straight (h a w ha)
theorem ex_scope_normal (h : Ex C Q .normal fr hp) : Ex C (Exit.noGoto Q) .normal fr hp := h
theorem ex_scope_ret (h : Ex C Q .ret fr hp) : Ex C (Exit.noGoto Q) .ret fr hp := h
theorem ex_scope_exit {i : Nat} (h : Ex C Q (.exit i) fr hp) : Ex C (Exit.noGoto Q) (.exit i) fr hp := h
/-- What holds behind a pass from a label: one of the states of the ghosts. -/
def Gho {G : Type} (C : Ctx) (p : G → Prop) (f : G → List (Nat × Value)) (h : G → List Res) (a : Act) (w : World) : Prop := ∃ g, p g ∧ At C (f g) (h g) a w
theorem ex_jump_ret {l : Nat} {J : Act → World → Prop} (h : Ex C Q .ret fr hp) : Ex C (Exit.jump l J Q) .ret fr hp := h
/-- A list with one thing taken out. -/
inductive Rem (r : Res) : List Res → List Res → Prop
  | here (l : List Res) : Rem r (r :: l) l
  | there (x : Res) {l l' : List Res} (h : Rem r l l') : Rem r (x :: l) (x :: l')
theorem Rem.perm {r : Res} {l l' : List Res} (h : Rem r l l') : l.Perm (r :: l') := by
  induction h with
  | here l => exact .refl _
  | there x _ ih => exact (ih.cons x).trans (.swap r x _)
/-- Some of a list's things, in whatever order. -/
inductive Pck : List Res → List Res → Prop
  | nil (l : List Res) : Pck [] l
  | refl (l : List Res) : Pck l l
  | cons {r : Res} {t l l' : List Res} (h : Rem r l l') (h' : Pck t l') : Pck (r :: t) l
  | perm {t l l' : List Res} (h : l.Perm l') (h' : Pck t l') : Pck t l
  | skip {t l : List Res} (x : Res) (h : Pck t l) : Pck t (x :: l)
theorem Pck.sub {t l : List Res} (h : Pck t l) : ∃ l', l.Perm l' ∧ t.Sublist l' := by
  induction h with
  | nil l => exact ⟨l, .refl _, List.nil_sublist _⟩
  | refl l => exact ⟨l, .refl _, List.Sublist.refl _⟩
  | @cons r t l l' h _ ih =>
    obtain ⟨l2, h1, h2⟩ := ih
    exact ⟨r :: l2, h.perm.trans (h1.cons r), h2.cons_cons r⟩
  | perm h _ ih =>
    obtain ⟨l2, h1, h2⟩ := ih
    exact ⟨l2, h.trans h1, h2⟩
  | skip x _ ih =>
    obtain ⟨l2, h1, h2⟩ := ih
    exact ⟨x :: l2, h1.cons x, h2.cons x⟩
theorem At.permed (ha : At C fr hp a w) (h : hp.Perm hp') : At C fr hp' a w :=
  ⟨ha.size, ha.defs, ha.slots, ha.below, ha.base, fun r hr => ha.own r (h.mem_iff.2 hr), (h.filterMap _).nodup_iff.1 ha.apart⟩
theorem At.pck (ha : At C fr hp a w) (h : Pck hp' hp) : At C fr hp' a w := by
  obtain ⟨l, h1, h2⟩ := h.sub
  exact (ha.permed h1).drop_res h2
theorem cod_ghost {c : Code} {G : Type} (p : G → Prop) (f : G → List (Nat × Value)) (h : G → List Res) (h1 : Cod C c (Exit.then (Gho C p f h) Q) fr hp) (h2 : ∀ g, p g → Ex C Q .normal (f g) (h g)) : Cod C c Q fr hp := by
  intro a w ha
  refine wp_mono (h1 a w ha) ?_
  intro e a' w' he
  cases e with
  | normal => obtain ⟨g, hg, ha'⟩ := he; exact h2 g hg _ _ ha'
  | _ => exact he
theorem ex_ghost {G : Type} {p : G → Prop} {f : G → List (Nat × Value)} {h : G → List Res} (g : G) (hg : p g) (hs : Sub (f g) fr) (hh : Pck (h g) hp) : Ex C (Exit.then (Gho C p f h) Q) .normal fr hp :=
  fun _ _ ha => ⟨g, hg, (ha.drop_slots hs).pck hh⟩
theorem ex_round' {G : Type} {p : G → Prop} {μ : G → Nat} {g : G} {f : G → List (Nat × Value)} {h : G → List Res} (g' : G) (h0 : p g') (hm : μ g' < μ g) (hs : Sub (f g') fr) (hh : Pck (h g') hp) :
    Ex C (Exit.then (Rnd C p μ f h g) Q) .normal fr hp := fun _ _ ha => ⟨g', h0, hm, (ha.drop_slots hs).pck hh⟩
theorem cod_loop' {G : Type} {c : Code} (p : G → Prop) (μ : G → Nat) (f : G → List (Nat × Value)) (h : G → List Res) (g0 : G) (h0 : p g0) (hs : Sub (f g0) fr) (hh : Pck (h g0) hp)
    (round : ∀ g, p g → Cod C c (Exit.then (Rnd C p μ f h g) Q) (f g) (h g)) : Cod C (.loop c) Q fr hp := fun a w ha =>
  cod_loop p μ f h g0 h0 hs (List.Sublist.refl _) round a w (ha.pck hh)
theorem cod_scope_jumps {c rest : Code} (l : Nat) {G : Type} (p : G → Prop) (μ : G → Nat) (f : G → List (Nat × Value)) (h : G → List Res) (hf : findLabel c l = some rest)
    (first : Cod C c (Exit.jump l (Gho C p f h) Q) fr hp)
    (pass : ∀ g, p g → Cod C rest (Exit.jump l (Rnd C p μ f h g) Q) (f g) (h g)) : Cod C (.scope c) Q fr hp := by
  intro a w ha
  refine wp_scope_jumps hf (fun n a w => ∃ g, p g ∧ μ g = n ∧ At C (f g) (h g) a w) (wp_mono (first a w ha) ?_) ?_
  · intro e a' w' he
    cases e with
    | goto l' => obtain ⟨h1, g, h2, h3⟩ := he; exact ⟨h1, μ g, g, h2, rfl, h3⟩
    | _ => exact he
  · rintro n a w ⟨g, h1, rfl, h3⟩
    refine wp_mono (pass g h1 a w h3) ?_
    intro e a' w' he
    cases e with
    | goto l' => obtain ⟨h1, g', h2, h4, h5⟩ := he; exact ⟨h1, μ g', h4, g', h2, rfl, h5⟩
    | _ => exact he
theorem ex_jump_goto {l : Nat} {G : Type} {p : G → Prop} {f : G → List (Nat × Value)} {h : G → List Res} (g : G) (hg : p g) (hs : Sub (f g) fr) (hh : Pck (h g) hp) : Ex C (Exit.jump l (Gho C p f h) Q) (.goto l) fr hp :=
  fun _ _ ha => ⟨rfl, g, hg, (ha.drop_slots hs).pck hh⟩
theorem ex_jump_again {l : Nat} {G : Type} {p : G → Prop} {μ : G → Nat} {g : G} {f : G → List (Nat × Value)} {h : G → List Res} (g' : G) (hg : p g') (hm : μ g' < μ g) (hs : Sub (f g') fr) (hh : Pck (h g') hp) : Ex C (Exit.jump l (Rnd C p μ f h g) Q) (.goto l) fr hp :=
  fun _ _ ha => ⟨rfl, g', hg, hm, (ha.drop_slots hs).pck hh⟩

/-! A call that turns what its caller owns. -/
theorem enter_in {f : FuncId} {fn : Func} {c : Code} {vs : List Value} {fr0 : List (Nat × Value)} {a0 : Act} {R : Ending → World → Prop} {N : Nat} (fr : List (Nat × Value)) (ha : At C fr0 hp a0 w)
    (hf : C.P.funcs[f]? = some fn) (hb : fn.body = some c) (hN : fn.ntmps = N) (hle : Nat.ble vs.length N = true) (hfr : idx 0 vs = fr)
    (h : Cod ⟨C.P, C.B, C.w0, N, []⟩ c (bodyPost C.P fn R) fr hp) : Calls C.P f vs.toArray w R := by
  refine calls_of_wp hf hb (h _ _ ⟨?_, rfl, ?_, ha.below, ha.base, ha.own, ha.apart⟩)
  · have : vs.length ≤ N := by simpa [Nat.ble_eq] using hle
    simp [hN]; omega
  · intro t v ht
    rw [← hfr] at ht
    obtain ⟨j, rfl, hj⟩ := look_idx vs 0 t v ht
    have hjl : j < vs.length := by
      rcases Nat.lt_or_ge j vs.length with h1 | h1
      · exact h1
      · rw [List.getElem?_eq_none h1] at hj; cases hj
    simp only [Nat.zero_add, Array.getD_eq_getD_getElem?]
    rw [Array.getElem?_append_left (by simpa using hjl)]
    simp [hj]
theorem At.back {N' : Nat} {ds' : List Deferred} {fr0 : List (Nat × Value)} {hp0 : List Res} {a0 : Act} {w0 : World} (h0 : At C fr0 hp0 a0 w0) (h : At ⟨C.P, C.B, C.w0, N', ds'⟩ fr hp a w) : At C fr0 hp a0 w :=
  ⟨h0.size, h0.defs, h0.slots, h.below, h.base, h.own, h.apart⟩

/-! Queues. -/
theorem que_some (ha : At C fr hp a w) {e size n c : Nat} {A : Option Addr} {xs : List Value} (hm : Res.que e size A n c xs ∈ hp) (hn : 0 < n) : ∃ g o, A = some ⟨g, o, none⟩ := by
  rcases (ha.own _ hm).2 with ⟨_, h2, _⟩ | ⟨g, o, cur, h1, _⟩
  · omega
  · exact ⟨g, o, h1⟩
theorem que_cell (ha : At C fr hp a w) {e size n c g o : Nat} {xs : List Value} (hm : Res.que e size (some ⟨g, o, none⟩) n c xs ∈ hp) : ∀ j u, xs[j]? = some u → w.cell? ⟨g, o + j, none⟩ = some u := by
  intro j u hu
  rcases (ha.own _ hm).2 with ⟨h1, _, _⟩ | ⟨g', o', cur, h1, _, hg, _, _, _, ht⟩
  · cases h1
  · cases h1
    rw [← ht, List.getElem?_take] at hu
    split at hu
    · rw [List.getElem?_drop] at hu
      rw [cell_of_row w g (o + j) cur e (0, 0) hg]
      simpa using hu
    · cases hu
theorem run_append_room_at {P : Program} (w : World) (t ty e : TypeId) (i : TypeInfo) (ht : P.underlying t = some (.slice e)) (hi : P.info? e = some i)
    (g o sLen sCap : Nat) (cur : Array Value) (hg : w.heap[g]? = some (.cells cur e (0, 0)))
    (a : Addr) (m c : Nat) (news : List Value) (hl : news.length = m * i.size) (hnews : ∀ j u, news[j]? = some u → w.cell? (a.add j) = some u) (h1 : ∀ u ∈ news, u.oneCell' = true)
    (hroom : sLen + m ≤ sCap) (hfit : o + sLen * i.size + news.length ≤ cur.size) :
    (Builtin.append_ #[t, t] ty #[.slice (some ⟨g, o, none⟩) sLen sCap, .slice (some a) m c]).run P w =
      .ok (.slice (some ⟨g, o, none⟩) (sLen + m) sCap) (w.setRow g (cur.toList.take (o + sLen * i.size) ++ news ++ cur.toList.drop (o + sLen * i.size + news.length)).toArray) := by
  have hf := run_firstCells_some (P := P) w i.size m a m c news hl hnews
  have hst := run_storeCells_at P g (o + sLen * i.size) e news 0 cur w hg (by simpa using hfit) h1
  simp only [Nat.add_zero] at hst
  have hadd : (⟨g, o, none⟩ : Addr).add (sLen * i.size) = ⟨g, o + sLen * i.size, none⟩ := by rw [addr_add]
  simp [Builtin.append_, run_underlying ht, sizeOf, typeInfo, hi, Builtin.lenOf, hroom, hf, hadd, hst]
theorem run_append_que {P : Program} (w : World) (base : Nat) (t ty e : TypeId) (i : TypeInfo) (z : Value) (ht : P.underlying t = some (.slice e)) (hi : P.info? e = some i) (hz : i.zero = some z)
    (hzs : z.cells.size = i.size) (A : Option Addr) (n cp : Nat) (xs : List Value) (hown : ownsQue w base e i.size A n cp xs)
    (a : Addr) (m c : Nat) (hm : 0 < m) (news : List Value) (hl : news.length = m * i.size) (hnews : ∀ j u, news[j]? = some u → w.cell? (a.add j) = some u) (h1 : ∀ u ∈ news, u.oneCell' = true)
    (h63 : n + m ≤ maxLen) (hbytes : (n + m) * i.bytes ≤ 140737488355328) (hbase : base ≤ w.heap.size) :
    ∃ A' c' w', (Builtin.append_ #[t, t] ty #[.slice A n cp, .slice (some a) m c]).run P w = .ok (.slice A' (n + m) c') w' ∧ ownsQue w' base e i.size A' (n + m) c' (xs ++ news) ∧ w.grownBy w' (Value.slice A n cp).ownBlock ∧
      ∀ k, (Value.slice A' (n + m) c').ownBlock = some k → (Value.slice A n cp).ownBlock = some k ∨ w.heap.size ≤ k := by
  have hsmall : n + m ≤ 9223372036854775807 := by simp only [maxLen] at h63; omega
  have hlen : (xs ++ news).length = (n + m) * i.size := by rw [List.length_append, hown.1, hl, Nat.add_mul]
  have grown : ∀ (old : Nat), old < n + m → ∀ (row : Option Nat),
      ownsQue (w.drew.alloc (.cells (xs.toArray ++ news.toArray ++ Builtin.zeroCells z.cells (grownCap w (n + m) old e - (n + m))) e)) base e i.size
        (some ⟨w.heap.size, 0, none⟩) (n + m) (grownCap w (n + m) old e) (xs ++ news) ∧
      w.grownBy (w.drew.alloc (.cells (xs.toArray ++ news.toArray ++ Builtin.zeroCells z.cells (grownCap w (n + m) old e - (n + m))) e)) row := by
    intro old ho row
    have hge := grownCap_ge w (n + m) old e
    have hcm : grownCap w (n + m) old e ≤ maxLen := grownCap_le_maxLen w (n + m) old e h63
    refine ⟨⟨hlen, .inr ⟨w.heap.size, 0, _, rfl, hbase, heap_alloc_new w.drew _, hge, hcm, ?_, ?_⟩⟩, ⟨rfl, rfl, rfl, by simp, fun k hk _ => heap_alloc_old w.drew _ hk⟩⟩
    · simp only [Array.size_append, List.size_toArray, size_zeroCells, hzs, hown.1, hl, ← Nat.add_mul]
      rw [Nat.zero_add]
      exact Nat.le_of_eq (congrArg (· * i.size) (by omega))
    · simp only [Array.toList_append, List.append_assoc, List.drop_zero]
      rw [← List.append_assoc, ← hlen]
      exact List.take_left
  rcases hown.2 with ⟨rfl, rfl, rfl⟩ | ⟨g, o, cur, rfl, hbg, hg, hnc, hcm, hcs, htake⟩
  · have hx : xs = [] := List.eq_nil_of_length_eq_zero (by simpa using hown.1)
    subst hx
    have hr := run_append_nil (P := P) w t ty e i z ht hi hz a m c news hl hnews (by omega) (by omega) (by have hb := hbytes; simp only [Nat.zero_add] at hb; omega)
    have hgr := grown 0 (by omega) none
    simp only [Nat.zero_add, List.nil_append, Array.empty_append] at hgr ⊢
    refine ⟨_, _, _, hr, hgr.1, hgr.2, fun k hk => .inr ?_⟩
    have : some w.heap.size = some k := hk
    cases this
    exact Nat.le_refl _
  · by_cases hroom : n + m ≤ cp
    · have hfit : o + n * i.size + news.length ≤ cur.size := by
        have := Nat.mul_le_mul_right i.size hroom
        rw [Nat.add_mul] at this
        rw [hl]; omega
      have hr := run_append_room_at (P := P) w t ty e i ht hi g o n cp cur hg a m c news hl hnews h1 hroom hfit
      have hxl : xs.length = n * i.size := hown.1
      refine ⟨_, _, _, hr, ⟨hlen, .inr ⟨g, o, _, rfl, hbg, setRow_heap w g cur _ e _ hg, hroom, hcm, ?_, ?_⟩⟩, ⟨rfl, rfl, rfl, by simp, fun k _ hk => setRow_other w g k _ (fun e => hk (by simp [Value.ownBlock, e]))⟩, fun k hk => .inl hk⟩
      · simp only [List.size_toArray, List.length_append, List.length_take, List.length_drop, Array.length_toList]
        omega
      · have e1 : cur.toList.take (o + n * i.size) = cur.toList.take o ++ xs := by rw [List.take_add, htake]
        have e2 : (cur.toList.take o).length = o := by rw [List.length_take]; simp; omega
        rw [e1, List.append_assoc, List.append_assoc, List.drop_append, e2, Nat.sub_self, List.drop_zero, List.drop_of_length_le (by omega), List.nil_append, ← List.append_assoc, ← hlen]
        exact List.take_left
    · have holds : ∀ j u, xs[j]? = some u → w.cell? ((⟨g, o, none⟩ : Addr).add j) = some u := by
        intro j u hu
        rw [addr_add]
        rw [← htake, List.getElem?_take] at hu
        split at hu
        · rw [List.getElem?_drop] at hu
          rw [cell_of_row w g (o + j) cur e (0, 0) hg]
          simpa using hu
        · cases hu
      have hr := run_append_grow (P := P) w t ty e i z ht hi hz ⟨g, o, none⟩ n cp xs hown.1 holds a m c news hl hnews (by omega) (by omega) (growslice_fits (by omega) hbytes)
      have hgr := grown cp (by omega) (some g)
      refine ⟨_, _, _, hr, hgr.1, hgr.2, fun k hk => .inr ?_⟩
      have : some w.heap.size = some k := hk
      cases this
      exact Nat.le_refl _
/-- A queue, found by its slice's address. -/
class InQ (A : Option Addr) (e size n c : outParam Nat) (xs : outParam (List Value)) (hp : List Res) : Prop where
  mem : Res.que e size A n c xs ∈ hp
instance InQ.tail (A : Option Addr) (e size n c : Nat) (xs : List Value) (x : Res) (l : List Res) [h : InQ A e size n c xs l] : InQ A e size n c xs (x :: l) := ⟨List.mem_cons.2 (.inr h.mem)⟩
instance InQ.head (A : Option Addr) (e size n c : Nat) (xs : List Value) (l : List Res) : InQ A e size n c xs (.que e size A n c xs :: l) := ⟨List.mem_cons.2 (.inl rfl)⟩
class UpQ (A : Option Addr) (e size n c : outParam Nat) (xs : outParam (List Value)) (r' : Res) (hp : List Res) (hp' : outParam (List Res)) : Prop where
  upd : Upd (.que e size A n c xs) r' hp hp'
instance UpQ.tail (A : Option Addr) (e size n c : Nat) (xs : List Value) (r' x : Res) (l l' : List Res) [h : UpQ A e size n c xs r' l l'] : UpQ A e size n c xs r' (x :: l) (x :: l') := ⟨.tail x h.upd⟩
instance UpQ.head (A : Option Addr) (e size n c : Nat) (xs : List Value) (r' : Res) (l : List Res) : UpQ A e size n c xs r' (.que e size A n c xs :: l) (r' :: l) := ⟨.head l⟩
theorem lst_append_que {x y : Operand} {t e : TypeId} {A : Option Addr} {b n c m cb size bytes ct : Nat} {xs news : List Value} {z : Value} {hp' : Option Addr → Nat → List Res} (hd : Nat.blt d C.N = true)
    (hx : ev fr x = some (.slice A n c)) (hy : ev fr y = some (.slice (some ⟨b, 0, none⟩) m cb)) (ht : C.P.underlying t = some (.slice e)) (hi : TI C.P e z size bytes) (hzs : z.cells.size = size) (hm0 : Nat.blt 0 m = true)
    [hb : InB b (.cells news.toArray ct (0, 0)) hp] (hl : news.length = m * size) [ho : Ones news] [hr : InQ A e size n c xs hp] [hu : ∀ A' c', UpQ A e size n c xs (.que e size A' (n + m) c' (xs ++ news)) hp (hp' A' c')]
    (h63 : n + m ≤ maxLen) (hbytes : (n + m) * bytes ≤ 140737488355328)
    (k : ∀ A' c', Lst C ops Q rest ((d, .slice A' (n + m) c') :: fr) (hp' A' c')) :
    Lst C ops Q (⟨some d, .call { callee := .builtin .append, args := #[x, y], argTypes := #[t, t] }, ty, pos, after, none⟩ :: rest) fr hp := by
  refine lst_of rfl fun a w ha => ?_
  obtain ⟨i, hi1, hi2, hi3, hi4⟩ := hi
  have hown := ha.own _ hr.mem
  have hblk := ha.mem_blk hb.mem
  subst hi3; subst hi4
  have hnews : ∀ j u, news[j]? = some u → w.cell? ((⟨b, 0, none⟩ : Addr).add j) = some u := by
    intro j u hu'
    rw [addr_add, Nat.zero_add]
    exact cell_of_blk hblk hu'
  obtain ⟨A', c', w', hrun, hown', hg, hplace⟩ := run_append_que (P := C.P) w C.B t ty e i z ht hi1 hi2 hzs A n c xs hown ⟨b, 0, none⟩ m cb (lt_of_blt hm0) news hl hnews ho.one h63 hbytes ha.base
  refine ⟨tame_builtin fun cs => by simp only [List.map_toArray, List.map_cons, List.map_nil, ha.eval hx, ha.eval hy]; exact tame_append ht, ?_⟩
  have hr' : (execOp a.eval ⟨some d, .call { callee := .builtin .append, args := #[x, y], argTypes := #[t, t] }, ty, pos, after, none⟩).run C.P w = .ok (.value (.slice A' (n + m) c')) w' := by
    simp only [execOp, resolve, invoke, builtin, Sem.run_bind, Sem.run_pure, Result.andThen_ok, List.map_toArray, List.map_cons, List.map_nil, ha.eval hx, ha.eval hy, hrun]
  rw [hr']
  exact k A' c' _ _ ((ha.turn (hu A' c').upd hg hown' hplace).put (lt_of_blt hd) _)
theorem ownsQue_nil (w : World) (B e size : Nat) : ownsQue w B e size none 0 0 [] := ⟨by simp, .inl ⟨rfl, rfl, rfl⟩⟩
theorem lst_nilque {l : List Oper} (e size : Nat) (h : Lst C ops Q l fr (.que e size none 0 0 [] :: hp)) : Lst C ops Q l fr hp := fun a w ha => h a w
  ⟨ha.size, ha.defs, ha.slots, ha.below, ha.base, fun r hr => by
    rcases List.mem_cons.1 hr with h1 | h1
    · subst h1; exact ownsQue_nil w C.B e size
    · exact ha.own r h1, by rw [List.filterMap_cons_none (show Res.id (.que e size none 0 0 []) = none from rfl)]; exact ha.apart⟩
theorem lst_slice1 {x y : Operand} {t e : TypeId} {A : Option Addr} {n c size bytes : Nat} {xs : List Value} {z : Value} {kd : IntKind} {hp' : Option Addr → List Res} (hd : Nat.blt d C.N = true)
    (hx : ev fr x = some (.slice A (n + 1) c)) (hy : ev fr y = some (.int kd 1)) (ht : C.P.underlying t = some (.slice e)) (hi : TI C.P e z size bytes)
    [hr : InQ A e size (n + 1) c xs hp] [hu : ∀ A', UpQ A e size (n + 1) c xs (.que e size A' n (c - 1) (xs.drop size)) hp (hp' A')]
    (k : ∀ A', Lst C ops Q rest ((d, .slice A' n (c - 1)) :: fr) (hp' A')) :
    Lst C ops Q (⟨some d, .slice t x (some y) none none, ty, pos, after, none⟩ :: rest) fr hp := by
  refine lst_of rfl fun a w ha => ?_
  obtain ⟨i, hi1, hi2, hi3, hi4⟩ := hi
  subst hi3
  have hown := ha.own _ hr.mem
  rcases hown.2 with ⟨_, h2, _⟩ | ⟨g, o, cur, rfl, hB, hg, hnc, hcm, hcs, htk⟩
  · omega
  have hsl : (execOp a.eval ⟨some d, .slice t x (some y) none none, ty, pos, after, none⟩).run C.P w = .ok (.value (.slice (if c = 1 then some ⟨g, o, none⟩ else some ⟨g, o + i.size, none⟩) n (c - 1))) w := by
    have h2 : ((1 : Int) ≤ (n : Int) + 1) := by omega
    have hs : (sizeOf e).run C.P w = .ok i.size w := by simp [sizeOf, typeInfo, hi1]
    simp only [execOp, Option.map, ha.eval hx, ha.eval hy, Instr.sliceAt, run_underlying ht, Sem.run_bind, Result.andThen_ok, Instr.slice, Instr.sliceBounds, Instr.sliceBound, asIntOf, Sem.run_pure]
    simp [h2, hs, addr_add]
  refine ⟨tame_slice .., ?_⟩
  rw [hsl]
  have hxl : xs.length = (n + 1) * i.size := hown.1
  have hown' : ownsQue w C.B e i.size (if c = 1 then some ⟨g, o, none⟩ else some ⟨g, o + i.size, none⟩) n (c - 1) (xs.drop i.size) := by
    refine ⟨by rw [List.length_drop, hxl, Nat.succ_mul]; omega, .inr ?_⟩
    by_cases hc1 : c = 1
    · have hn0 : n = 0 := by omega
      subst hn0; subst hc1
      refine ⟨g, o, cur, by simp, hB, hg, by omega, by omega, by omega, ?_⟩
      rw [Nat.zero_mul, List.take_zero, List.drop_of_length_le (by rw [hxl]; omega)]
    · refine ⟨g, o + i.size, cur, by simp [hc1], hB, hg, by omega, by omega, ?_, ?_⟩
      · obtain ⟨c', rfl⟩ : ∃ c', c = c' + 1 := ⟨c - 1, by omega⟩
        rw [Nat.succ_mul] at hcs
        simp only [Nat.add_sub_cancel]; omega
      · rw [← htk, List.drop_take, List.drop_drop]
        congr 1
        rw [Nat.succ_mul]; omega
  have hid : (Value.slice (if c = 1 then some (⟨g, o, none⟩ : Addr) else some ⟨g, o + i.size, none⟩) n (c - 1)).ownBlock = some g := by split <;> rfl
  exact k _ _ _ ((ha.turn (hu _).upd (⟨rfl, rfl, rfl, Nat.le_refl _, fun _ _ _ => rfl⟩ : w.grownBy w _) hown' (fun j hj => .inl (by
    have : some g = some j := hid.symm.trans hj
    exact this))).put (lt_of_blt hd) _)
/-- The first h elements of an array. -/
theorem lst_slice_arr {x y : Operand} {t e : TypeId} {len h : Nat} {p : Addr} {kd : IntKind} {size bytes : Nat} {z : Value} (hd : Nat.blt d C.N = true) (hx : ev fr x = some (.pointer (some p))) (hy : ev fr y = some (.int kd (h : Int)))
    (ht : C.P.underlying t = some (.array len e)) (hi : TI C.P e z size bytes) (hh : h ≤ len) (k : Lst C ops Q rest ((d, .slice (some p) h len) :: fr) hp) : Lst C ops Q (⟨some d, .slice t x none (some y) none, ty, pos, after, none⟩ :: rest) fr hp := by
  obtain ⟨i, hi1, _⟩ := hi
  have h2 : ((h : Int) ≤ (len : Int)) := by omega
  have hp0 : p.add 0 = p := by unfold Addr.add; split <;> simp_all
  exact lst_value _ hd (fun _ _ _ => tame_slice ..) (fun a w ha => ⟨w, by
    have hs : (sizeOf e).run C.P w = .ok i.size w := by simp [sizeOf, typeInfo, hi1]
    simp only [execOp, Option.map, ha.eval hx, ha.eval hy, Instr.sliceAt, run_underlying ht, Sem.run_bind, Result.andThen_ok, Instr.sliceBounds, Instr.sliceBound, asIntOf, Sem.run_pure, Instr.sureAddr]
    simp [h2, hs, hp0], ha⟩) k
end
end Go.Proofs.YtofkhehcnfiopaaDoor.N
namespace Go.Proofs.YtofkhehcnfiopaaDoor.N
open Go Go.RowKit Go.Proofs
set_option linter.unusedSectionVars false
/-! The walks' side conditions under short names. -/
theorem sbl {l m : List Res} (h : l.Sublist m := by repeat (first | exact List.Sublist.refl _ | exact List.nil_sublist _ | refine List.Sublist.cons_cons _ ?_ | refine List.Sublist.cons _ ?_)) : l.Sublist m := h
theorem sbn {l m : List (Nat × Value)} (h : Sub l m := by repeat (first | exact Sub.nil _ | refine Sub.cons rfl ?_)) : Sub l m := h
theorem pkk {l m : List Res} (h : Pck l m := by repeat (first | exact Pck.nil _ | exact Pck.refl _ | (apply Pck.cons; focus ((repeat (first | exact Rem.here _ | apply Rem.there)); done)) | refine Pck.skip _ ?_)) : Pck l m := h
theorem any_tk [I : Sys] {C : Ctx} {fr : List (Nat × Value)} {hp hpS : List Res} {ops : Array Oper} {Q : Exit → Act → World → Prop} {d fuel : Nat} {listed : Array Bool} {o : Oper} {v : Value} (i : Nat) (hi : ops[i]? = some o) (hdst : o.dst = some d) (hd : Nat.blt d C.N = true)
    (y : Yld C o fr hpS v) (k : Any C ops Q hpS fuel (listed.setIfInBounds i true) ((d, v) :: fr) hp) (hns : Region.noSelect ops = true := by kernel_rfl) (hf : Region.free .any ops listed i = true := by kernel_rfl) (hr : (Region.ready .any ops listed).contains i = true := by kernel_rfl)
    (hs : hpS.Sublist hp := by repeat (first | exact List.Sublist.refl _ | exact List.nil_sublist _ | refine List.Sublist.cons_cons _ ?_ | refine List.Sublist.cons _ ?_)) : Any C ops Q hpS (fuel + 1) listed fr hp :=
  any_take i hi hdst hd hns hf hr hs y rfl k
end Go.Proofs.YtofkhehcnfiopaaDoor.N
namespace Go.Proofs.YtofkhehcnfiopaaDoor.N
open Go Go.RowKit Go.Proofs
set_option linter.unusedSectionVars false
variable [I : Sys]

/-- Where the parts of a struct or an array lie, and how many cells each has. -/
def Places (P : Program) (t : TypeId) (pl : List (Nat × Nat)) : Prop :=
  (∃ fs, P.underlying t = some (.struct fs) ∧ fs.toList.mapM (fun f => (P.info? f.type).map fun i => (f.offset, i.size)) = some pl) ∨
  (∃ n e s, P.underlying t = some (.array n e) ∧ (P.info? e).map (·.size) = some s ∧ pl = (List.range n).map (fun j => (j * s, s)))
inductive Filled (pl : List (Nat × Nat)) : List Value → List (Nat × Value) → List Value → Prop
  | nil (z : List Value) : Filled pl z [] z
  | cons {i off : Nat} {v : Value} {z lv l : List Value} {ps : List (Nat × Value)} [h : Cells v lv] (hp : pl[i]? = some (off, lv.length)) (hb : Nat.ble (off + lv.length) z.length = true)
      (h' : Filled pl (z.take off ++ lv ++ z.drop (off + lv.length)) ps l) : Filled pl z ((i, v) :: ps) l
theorem fill_filled {pl : List (Nat × Nat)} {place : Nat → Option (Nat × Nat)} (hpl : ∀ i q, pl[i]? = some q → place i = some q) {z l : List Value} {ps : List (Nat × Value)} (h : Filled pl z ps l) : Instr.fill place z.toArray ps = some l.toArray := by
  induction h with
  | nil z => rfl
  | @cons i off v z lv l ps hc hp hb _ ih =>
    have hb' : off + lv.length ≤ z.length := by simpa [Nat.ble_eq] using hb
    unfold Instr.fill
    rw [hpl _ _ hp]
    simp only [hc.eq]
    rw [if_neg (by simp; omega)]
    have hfold := foldl_set lv z.toArray off 0 (by simp; omega)
    simp only [Nat.add_zero] at hfold
    have hz : lv.toArray.zipIdx.foldl (fun cs (q : Value × Nat) => cs.setIfInBounds (off + q.2) q.1) z.toArray = (z.take off ++ lv ++ z.drop (off + lv.length)).toArray := by
      apply Array.ext'
      rw [← Array.foldl_toList]
      simpa using hfold
    rw [show (fun (cs : Array Value) (x : Value × Nat) => match x with | (c, j) => cs.setIfInBounds (off + j) c) = (fun (cs : Array Value) (q : Value × Nat) => cs.setIfInBounds (off + q.2) q.1) from rfl, hz]
    exact ih
theorem run_built {P : Program} {t : TypeId} {z l : List Value} {n m : Nat} {pl : List (Nat × Nat)} {ps : List (Nat × Value)} (hi : TI P t (.agg z.toArray) n m) (hpl : Places P t pl) (h : Filled pl z ps l) (w : World) :
    (Instr.build t ps.toArray).run P w = .ok (.agg l.toArray) w := by
  obtain ⟨i, hi, hz, _⟩ := hi
  refine run_build w t _ _ ?_
  unfold Program.built
  rcases hpl with ⟨fs, hu, hfs⟩ | ⟨k, e, s, hu, hs, rfl⟩
  · have hf := fill_filled (place := fun i => pl.toArray[i]?) (fun i q hq => by simpa using hq) h
    simp only [hi, hu, hz, hfs]
    exact hf
  · obtain ⟨j, hj, hjs⟩ := Option.map_eq_some_iff.1 hs
    have hf := fill_filled (place := fun i => some (i * s, s)) (fun i q hq => by
      rw [List.getElem?_map] at hq
      obtain ⟨a, ha, hq⟩ := Option.map_eq_some_iff.1 hq
      have hai : a = i := by
        rcases Nat.lt_or_ge i k with h1 | h1
        · rw [List.getElem?_range h1] at ha; exact (Option.some.inj ha).symm
        · rw [List.getElem?_eq_none (by simpa using h1)] at ha; cases ha
      rw [← hq, hai]) h
    simp only [hi, hu, hz, hj, hjs]
    exact hf
section
variable {C : Ctx} {fr : List (Nat × Value)} {hp hp' : List Res} {a : Act} {w : World} {ops : Array Oper} {Q : Exit → Act → World → Prop} {rest : List Oper}
  {d : Nat} {ty : TypeId} {pos : String} {after : Array Edge}
/-- A struct's or an array's literal. -/
theorem lst_struct {t : TypeId} {parts : Array (Nat × Operand)} {vs : List (Nat × Value)} {z l l' : List Value} {n m : Nat} {pl : List (Nat × Nat)} (hd : Nat.blt d C.N = true)
    (hx : parts.toList.map (fun q => (q.1, ev fr q.2)) = vs.map (fun q => (q.1, some q.2))) (hi : TI C.P t (.agg z.toArray) n m) (hpl : Places C.P t pl) (h : Filled pl z vs l) (hl : l = l')
    (k : Lst C ops Q rest ((d, .agg l'.toArray) :: fr) hp) : Lst C ops Q (⟨some d, .build t parts, ty, pos, after, none⟩ :: rest) fr hp := by
  subst hl
  exact lst_build hd hx (run_built hi hpl h) k
theorem yld_struct {dst : Option Tmp} {t : TypeId} {parts : Array (Nat × Operand)} {vs : List (Nat × Value)} {z l l' : List Value} {n m : Nat} {pl : List (Nat × Nat)}
    (hx : parts.toList.map (fun q => (q.1, ev fr q.2)) = vs.map (fun q => (q.1, some q.2))) (hi : TI C.P t (.agg z.toArray) n m) (hpl : Places C.P t pl) (h : Filled pl z vs l) (hl : l = l') :
    Yld C ⟨dst, .build t parts, ty, pos, after, none⟩ fr hp (.agg l'.toArray) := by
  subst hl
  refine ⟨rfl, fun a w ha => ⟨tame_build .., ?_⟩⟩
  have h' : parts.map (fun (i, x) => (i, a.eval x)) = vs.toArray := by
    have : ∀ (l : List (Nat × Operand)) (vs : List (Nat × Value)), l.map (fun q => (q.1, ev fr q.2)) = vs.map (fun q => (q.1, some q.2)) → l.map (fun (q : Nat × Operand) => (q.1, a.eval q.2)) = vs := by
      intro l
      induction l with
      | nil => intro vs h; cases vs with
        | nil => rfl
        | cons => simp at h
      | cons x l ih =>
        intro vs h
        cases vs with
        | nil => simp at h
        | cons v vs =>
          simp only [List.map_cons, List.cons.injEq, Prod.mk.injEq] at h
          rw [List.map_cons, ha.eval h.1.2, ih vs h.2, h.1.1]
    obtain ⟨l⟩ := parts
    simp only [List.map_toArray]
    rw [show (fun (x : Nat × Operand) => match x with | (i, x) => (i, a.eval x)) = (fun (q : Nat × Operand) => (q.1, a.eval q.2)) from rfl, this l vs hx]
  simp only [execOp, h', Sem.run_bind, run_built hi hpl h, Result.andThen_ok, Sem.run_pure]
theorem lst_index_lit {x y : Operand} {t e : TypeId} {b o j len n m off : Nat} {kd : IntKind} {z : Value} (hd : Nat.blt d C.N = true) (hx : ev fr x = some (.pointer (some ⟨b, o, none⟩))) (hy : ev fr y = some (.int kd (j : Int)))
    (ht : C.P.underlying t = some (.array len e)) (he : TI C.P e z n m) (hj : Nat.blt j len = true) (ho : o + j * n = off) (k : Lst C ops Q rest ((d, .pointer (some ⟨b, off, none⟩)) :: fr) hp) : Lst C ops Q (⟨some d, .indexAddr t x y, ty, pos, after, none⟩ :: rest) fr hp := by
  subst ho
  exact lst_index_arr hd hx hy ht he rfl (lt_of_blt hj) k
theorem yld_index_lit {dst : Option Tmp} {x y : Operand} {t e : TypeId} {b o j len n m off : Nat} {kd : IntKind} {z : Value} (hx : ev fr x = some (.pointer (some ⟨b, o, none⟩))) (hy : ev fr y = some (.int kd (j : Int)))
    (ht : C.P.underlying t = some (.array len e)) (he : TI C.P e z n m) (hj : Nat.blt j len = true) (ho : o + j * n = off) : Yld C ⟨dst, .indexAddr t x y, ty, pos, after, none⟩ fr hp (.pointer (some ⟨b, off, none⟩)) := by
  subst ho
  exact yld_index_arr hx hy ht he rfl (lt_of_blt hj)
theorem yld_convert {dst : Option Tmp} {x : Operand} {s t : TypeId} {kd ke : IntKind} {m r : Int} {ds : TypeDesc} (hx : ev fr x = some (.int ke m)) (hs : C.P.underlying s = some ds) (ht : C.P.underlying t = some (.int kd))
    (hr : kd.wrap m = r) : Yld C ⟨dst, .convert s t x, ty, pos, after, none⟩ fr hp (.int kd r) := by
  refine ⟨rfl, fun a w ha => ⟨tame_convertInt (ha.eval hx) hs ht, ?_⟩⟩
  simp only [execOp, ha.eval hx, convert, Sem.run_bind, run_underlying hs, run_underlying ht, Result.andThen_ok, Conv.intToInt, Sem.run_pure, hr]
theorem yld_shl {dst : Option Tmp} {x y : Operand} {t t' : TypeId} {kd ke : IntKind} {m n r : Int} (hx : ev fr x = some (.int kd m)) (hy : ev fr y = some (.int ke n)) (h0 : 0 ≤ n)
    (hr : kd.wrap (m * 2 ^ (min n.toNat kd.bits)) = r) : Yld C ⟨dst, .binOp .shl t x y t', ty, pos, after, none⟩ fr hp (.int kd r) := by
  refine ⟨rfl, fun a w ha => ⟨tame_binInt (ha.eval hx) (ha.eval hy), ?_⟩⟩
  subst hr
  simp [execOp, ha.eval hx, ha.eval hy, eqGuard, binOp, Op.shift, Int.not_lt.2 h0]
theorem yld_bin {dst : Option Tmp} {op : BinOp} {x y : Operand} {t t' : TypeId} {u u' : Value} {v : Value} [htb : TB u u'] (hx : ev fr x = some u) (hy : ev fr y = some u')
    (hr : ∀ w : World, (do eqGuard op t x y u u'; binOp op t u u' : Sem Value).run C.P w = .ok v w) : Yld C ⟨dst, .binOp op t x y t', ty, pos, after, none⟩ fr hp v := by
  refine ⟨rfl, fun a w ha => ⟨tame_value _ (by rw [ha.eval hx, ha.eval hy]; exact htb.tame ..), ?_⟩⟩
  have := hr w
  simp only [execOp, ha.eval hx, ha.eval hy, Sem.run_bind] at this ⊢
  rw [this]; rfl
theorem yields_undef (ha : At C fr hp a w) {j t : Nat} (hj : (ops[j]?).bind (·.dst) = some t) (hv : look fr t = some undef) : yielded ops a.tmps j = none := by
  have h := ha.slots t _ hv
  unfold yielded
  rw [hj]
  simp only [Option.bind_some]
  cases hx : a.tmps[t]? with
  | none => rfl
  | some u =>
    rw [Array.getD_eq_getD_getElem?, hx] at h
    have hu : u = undef := h
    rw [hu]; rfl
/-- An operation under a guard that has no value. -/
theorem lst_offu {op : Op} {j t d : Nat} {b : Bool} (hd : Nat.blt d C.N = true) (hj : (ops[j]?).bind (·.dst) = some t) (hv : look fr t = some undef)
    (k : Lst C ops Q rest ((d, undef) :: fr) hp) : Lst C ops Q (⟨some d, op, ty, pos, after, some (j, b)⟩ :: rest) fr hp := by
  intro a w ha
  simp only [wpList]
  have e : Region.wanted ⟨some d, op, ty, pos, after, some (j, b)⟩ (yielded ops a.tmps) = false := by
    simp [Region.wanted, yields_undef ha hj hv]
  rw [if_neg (by rw [e]; simp)]
  exact k _ _ (ha.put (lt_of_blt hd) _)
/-- What is left when some things are taken out. -/
inductive Dk
  | b (n : Nat)
  | q (A : Option Addr)
  | r (A : Option Addr)
class Drp (bs : List Dk) (hp : List Res) (hp' : outParam (List Res)) : Prop where
  sub : hp'.Sublist hp
instance Drp.nil (hp : List Res) : Drp [] hp hp := ⟨List.Sublist.refl _⟩
class Drp1 (b : Dk) (hp : List Res) (hp' : outParam (List Res)) : Prop where
  sub : hp'.Sublist hp
instance Drp1.tail (b : Dk) (x : Res) (l l' : List Res) [h : Drp1 b l l'] : Drp1 b (x :: l) (x :: l') := ⟨h.sub.cons_cons x⟩
instance Drp1.b (b : Nat) (o : Obj) (l : List Res) : Drp1 (.b b) (.blk b o :: l) l := ⟨List.Sublist.cons _ (List.Sublist.refl _)⟩
instance Drp1.q (A : Option Addr) (e size n c : Nat) (xs : List Value) (l : List Res) : Drp1 (.q A) (.que e size A n c xs :: l) l := ⟨List.Sublist.cons _ (List.Sublist.refl _)⟩
instance Drp1.r (A : Option Addr) (e size n c : Nat) (xs : List Value) (l : List Res) : Drp1 (.r A) (.row e size A n c xs :: l) l := ⟨List.Sublist.cons _ (List.Sublist.refl _)⟩
instance Drp.cons (b : Dk) (bs : List Dk) (l l' l'' : List Res) [h : Drp1 b l l'] [h' : Drp bs l' l''] : Drp (b :: bs) l l'' := ⟨h'.sub.trans h.sub⟩
theorem any_begin {id : Nat} {l : List Oper} {hpS : List Res} (bs : List Dk) (hm : C.P.follows .mixedOrders = true) (n : Nat) (hn : l.length = n) (lst : List Bool) (hl : Array.replicate n false = lst.toArray) [hs : Drp bs hp hpS] (h : Any C l.toArray Q hpS n lst.toArray fr hp) :
    Cod C (.region id l.toArray true) Q fr hp := any_start hm n hn lst hl hs.sub h
theorem ex_panic {fn : Func} {R : Ending → World → Prop} {ch : List PanicEntry} (hds : C.ds = []) (k : ∀ a w, At C fr hp a w → R (.panicked ch) w) : Ex C (bodyPost C.P fn R) (.panic ch) fr hp :=
  fun a w ha => ⟨ha.defs.trans hds, k a w ha⟩
end
end Go.Proofs.YtofkhehcnfiopaaDoor.N
namespace Go.Proofs.YtofkhehcnfiopaaDoor.N
open Go Go.RowKit Go.Proofs
set_option linter.unusedSectionVars false
variable [I : Sys]
theorem F.agg75 : aggB Tryd.prog 75 = true := by unfold aggB; rw [Tryd.underlying75]
theorem F.ent46 : Enters Tryd.prog 46 := enters_of Tryd.func46 rfl (by kernel_rfl)
theorem F.pl75 : Places Tryd.prog 75 [(0, 1), (1, 1)] := .inl ⟨_, Tryd.underlying75, by kernel_rfl⟩
theorem F.pl89 : Places Tryd.prog 89 [(0, 5)] := .inl ⟨_, Tryd.underlying89, by kernel_rfl⟩
theorem F.ti75 : TI Tryd.prog 75 (.agg [.slice none 0 0, .int .u8 0].toArray) 2 32 := TI.of (by kernel_rfl)
theorem begin_ok (A : Option Addr) (c : Nat) (ags : List Ag) (hok : Oks ags) (w : World) (hA : RdL Ag.cells 5 w A ags) : Calls Tryd.prog 75 #[.slice A ags.length c] w fun e w' => ∃ A' c', e = .returned (.agg [.slice A' ags.length c', .int .u8 (usedAll ags.length : Nat)].toArray) ∧ Grew w w' [.row 89 5 A' ags.length c' (ags.flatMap Ag.cells)] := by
  refine enter (N := 33) [(0, .slice A ags.length c)] Tryd.func75 rfl Tryd.ntmps75 rfl rfl ?_
  refine cod_seq ?_
  refine cod_region ?_
  refine lst_alloc rfl F.ti75 ?_
  intro b2
  refine lst_nil ?_
  refine ex_then ?_
  refine cod_seq ?_
  refine cod_seq ?_
  refine cod_region ?_
  refine lst_move rfl rfl ?_
  refine lst_fn0 (vs := [_]) rfl rfl F.ent46 (fun a w ha => (by have h := check_c A c (ags.map Ag.raw) w (hA.raw.later ha.below); rw [checkR_raw hok] at h; simpa only [List.length_map] using h)) ?_
  refine lst_assign rfl rfl ?_
  refine lst_nil ?_
  refine ex_then ?_
  refine cod_seq ?_
  refine cod_region ?_
  refine lst_move rfl rfl ?_
  refine lst_int rfl rfl rfl bin_neq ?_
  refine lst_nil ?_
  refine ex_then ?_
  refine cod_cond_dec rfl (fun hc0 => ?_) (fun hc0 => ?_)
  · skip
    exact (hc0 rfl).elim -- done
  · skip
    refine cod_skip ?_
    refine ex_then ?_
    refine cod_seq ?_
    refine cod_region ?_
    refine lst_move rfl rfl ?_
    refine lst_len rfl rfl Tryd.underlying22 ?_
    refine lst_shl rfl rfl rfl (by omega) (shl_one hok.1) ?_
    refine lst_int rfl rfl rfl (fun w => bin_sub w (sub_one hok.1)) ?_
    refine lst_struct (vs := [(1, _)]) (l' := [_, _]) rfl rfl F.ti75 F.pl75 (.cons rfl rfl (.nil _)) rfl ?_
    refine lst_alloc rfl F.ti75 ?_
    intro b4
    refine lst_store rfl rfl F.ti75 rfl ?_
    refine lst_nil ?_
    refine ex_then ?_
    refine cod_seq ?_
    refine cod_seq ?_
    refine cod_region ?_
    refine lst_move rfl rfl ?_
    refine lst_len rfl rfl Tryd.underlying22 ?_
    refine lst_move rfl rfl ?_
    refine lst_nil ?_
    refine ex_then ?_
    refine cod_block ?_
    refine cod_nil 89 5 ?_
    refine cod_loop (G := Nat × Option Addr × Nat) (fun g => g.1 ≤ ags.length) (fun g => ags.length - g.1) (fun g => [(2, .pointer (some ⟨b2, 0, none⟩)), (4, .pointer (some ⟨b4, 0, none⟩)), (18, .slice A ags.length c), (19, .int .i64 (ags.length : Int)), (20, .int .i64 (g.1 : Int))]) (fun g => [.row 89 5 g.2.1 g.1 g.2.2 ((ags.take g.1).flatMap Ag.cells), .blk b4 (.cells [.slice g.2.1 g.1 g.2.2, .int .u8 (usedAll ags.length : Nat)].toArray 75 (0, 0)), .blk b2 (.cells [.slice none 0 0, .int .u8 0].toArray 75 (0, 0))]) (0, none, 0) (Nat.zero_le _) sbn sbl ?_
    rintro ⟨k, A', c'⟩ hk
    (try dsimp only at hk ⊢)
    refine cod_seq ?_
    refine cod_region ?_
    refine lst_int rfl rfl rfl bin_lss ?_
    refine lst_nil ?_
    refine ex_then ?_
    refine cod_seq ?_
    refine cod_cond_dec rfl (fun hc1 => ?_) (fun hc1 => ?_)
    · skip
      have hk' : k < ags.length := by omega
      obtain ⟨b, o, rfl, hb, hcell⟩ := hA (by omega)
      obtain ⟨x, hx⟩ : ∃ x, ags[k]? = some x := ⟨_, List.getElem?_eq_getElem hk'⟩
      have hxo : x.ok := hok.2 x (List.mem_of_getElem? hx)
      have hxd : ags.getD k default = x := by rw [List.getD_eq_getElem?_getD, hx]; rfl
      refine cod_skip ?_
      refine ex_then ?_
      refine cod_seq ?_
      refine cod_block ?_
      refine cod_seq ?_
      refine cod_region ?_
      refine lst_index (j := k) rfl rfl rfl Tryd.underlying22 F.ti24 rfl hk' ?_
      refine lst_loadN_at (l := [.int .i64 (x.needs : Int), .int .i64 (x.no : Int), .int .i64 (x.takes : Int), .int .i64 (x.leaves : Int), .int .i64 (x.cost : Int)]) rfl rfl F.agg24 F.ti24 rfl (fun a w ha j u hu => ha.old (hcell k x hx j u hu) hb) ?_
      refine lst_alloc rfl F.ti24 ?_
      intro b6
      refine lst_store rfl rfl F.ti24 rfl ?_
      refine lst_nil ?_
      refine ex_then ?_
      refine cod_region ?_
      refine lst_field_z rfl rfl F.fi75_0 F.ti72 ?_
      refine lst_load rfl rfl F.one72 ?_
      refine lst_loadN rfl rfl F.agg24 F.ti24 ?_
      refine lst_struct (vs := [(0, _)]) (l' := [_, _, _, _, _]) rfl rfl F.ti89 F.pl89 (.cons rfl rfl (.nil _)) rfl ?_
      refine lst_litN (vs := [(0, _)]) [_, _, _, _, _] rfl rfl Tryd.underlying72 F.ti89 rfl rfl rfl ⟨rfl, [_, _, _, _, _], [], rfl, rfl, rfl, rfl⟩ ?_
      intro b28
      refine lst_append rfl rfl rfl Tryd.underlying72 F.ti89 rfl rfl rfl (by have := hok.1; unfold maxLen; omega) (by have := hok.1; omega) ?_
      intro A1 c1
      refine lst_field_z rfl rfl F.fi75_0 F.ti72 ?_
      refine lst_store rfl rfl F.ti72 rfl ?_
      refine lst_nil ?_
      refine ex_block_normal ?_
      refine ex_then ?_
      refine cod_region ?_
      refine lst_int rfl rfl rfl (fun w => bin_add w (wrap_i64' _ (by omega) (by have := hok.1; omega))) ?_
      refine lst_move rfl rfl ?_
      refine lst_nil ?_
      have e : (ags.take (k + 1)).flatMap Ag.cells = (ags.take k).flatMap Ag.cells ++ [.int .i64 (x.needs : Int), .int .i64 (x.no : Int), .int .i64 (x.takes : Int), .int .i64 (x.leaves : Int), .int .i64 (x.cost : Int)] := by rw [List.take_add_one, hx, List.flatMap_append]; rfl
      refine ex_round (k + 1, A1, c1) (by (try dsimp only); omega) (by (try dsimp only); omega) (by (try dsimp only); (try rw [e]); repeat (first | exact Sub.nil _ | refine Sub.cons rfl ?_)) (by (try dsimp only); (try rw [e]); repeat (first | exact List.Sublist.refl _ | exact List.nil_sublist _ | refine List.Sublist.cons_cons _ ?_ | refine List.Sublist.cons _ ?_))
    · skip
      refine cod_exit ?_
      refine ex_then_exit ?_
      refine ex_then_exit ?_
      refine ex_block_exit ?_
      refine ex_then ?_
      refine cod_seq ?_
      refine cod_region ?_
      refine lst_loadN rfl rfl F.agg75 F.ti75 ?_
      refine lst_store rfl rfl F.ti75 rfl ?_
      refine lst_nil ?_
      refine ex_then ?_
      refine cod_ret ?_
      have hfin : ags.length = k := by omega
      subst hfin
      rw [List.take_length]
      refine ex_ret rfl (fun a w ha => by exact res_cellN (ha := ha) rfl rfl F.agg75 F.ti75 rfl) (fun a w ha => ⟨A', c', rfl, ha.grown sbl⟩)

theorem melt_ok (f : Nat) (hf : f < 64) (w : World) : Calls Tryd.prog 76 #[.int .i64 (f : Int)] w fun e w' => e = .returned (.int .u8 (f : Int)) ∧ Grew w w' [] := by
  refine enter (N := 11) [(0, .int .i64 (f : Int))] Tryd.func76 rfl Tryd.ntmps76 rfl rfl ?_
  refine cod_seq ?_
  refine cod_region ?_
  refine lst_assign rfl rfl ?_
  refine lst_nil ?_
  refine ex_then ?_
  refine cod_seq ?_
  refine cod_seq ?_
  refine cod_region ?_
  refine lst_move rfl rfl ?_
  refine lst_lit (vs := [(0, _)]) rfl rfl Tryd.underlying25 F.ti3 rfl rfl rfl ?_
  intro b4
  refine lst_fn0 (vs := [_]) rfl rfl F.ent98 (fun a w ha => (by have h := all_c (some ⟨b4, 0, none⟩) 1 [(f : Int)] (show (1 : Nat) ≤ _ by decide) w (blk_reads (cells := icell) (size := 1) ha (fun _ => rfl) rfl); rw [show allB [(f : Int)] = inB (f : Int) 0 63 from by simp [allB]] at h; exact h)) ?_
  refine lst_not rfl rfl ?_
  refine lst_nil ?_
  refine ex_then ?_
  refine cod_cond_bool rfl (fun hc0 => ?_) (fun hc0 => ?_)
  · skip
    have : inB (f : Int) 0 63 = true := by rw [inB_true]; omega
    rw [this] at hc0; cases hc0 -- done
  · skip
    refine cod_skip ?_
    refine ex_then ?_
    refine cod_seq ?_
    refine cod_region ?_
    refine lst_move rfl rfl ?_
    refine lst_convert rfl rfl Tryd.underlying3 Tryd.underlying77 (wrap_u8 _ (by omega)) ?_
    refine lst_int rfl rfl rfl (fun w => bin_and w (u8_and f 63 (by omega) (by omega))) ?_
    refine lst_assign rfl rfl ?_
    refine lst_nil ?_
    refine ex_then ?_
    refine cod_ret ?_
    have e : f &&& 63 = f := Nat.and_two_pow_sub_one_of_lt_two_pow (n := 6) hf
    refine ex_ret rfl (fun a w ha => res_one rfl rfl ha) (fun a w ha => ⟨by rw [e], ha.grown (List.nil_sublist _)⟩)

theorem melt_bad (n : Int) (hn : inB n 0 63 = false) (w : World) : Calls Tryd.prog 76 #[.int .i64 n] w fun e w' => e = .panicked [{ v := .iface 133 (.int .i64 1), recovered := false }] ∧ Grew w w' [] := by
  refine enter (N := 11) [(0, .int .i64 n)] Tryd.func76 rfl Tryd.ntmps76 rfl rfl ?_
  refine cod_seq ?_
  refine cod_region ?_
  refine lst_assign rfl rfl ?_
  refine lst_nil ?_
  refine ex_then ?_
  refine cod_seq ?_
  refine cod_seq ?_
  refine cod_region ?_
  refine lst_move rfl rfl ?_
  refine lst_lit (vs := [(0, _)]) rfl rfl Tryd.underlying25 F.ti3 rfl rfl rfl ?_
  intro b4
  refine lst_fn0 (vs := [_]) rfl rfl F.ent98 (fun a w ha => (by have h := all_c (some ⟨b4, 0, none⟩) 1 [n] (show (1 : Nat) ≤ _ by decide) w (blk_reads (cells := icell) (size := 1) ha (fun _ => rfl) rfl); rw [show allB [n] = inB n 0 63 from by simp [allB]] at h; exact h)) ?_
  refine lst_not rfl rfl ?_
  refine lst_nil ?_
  refine ex_then ?_
  refine cod_cond_bool rfl (fun hc0 => ?_) (fun hc0 => ?_)
  · skip
    refine cod_region ?_
    refine lst_makeInterface rfl rfl Tryd.underlying133 rfl ?_
    refine lst_panic rfl ?_
    refine ex_then_panic ?_
    exact ex_panic rfl (fun a w ha => ⟨rfl, ha.grown (List.nil_sublist _)⟩)
  · skip
    rw [hn] at hc0; cases hc0 -- done

end Go.Proofs.YtofkhehcnfiopaaDoor.N
namespace Go.Proofs.YtofkhehcnfiopaaDoor.N
open Go Go.RowKit Go.Proofs
set_option linter.unusedSectionVars false
variable [I : Sys]

/-- A team: three sets of faults. -/
abbrev Tm := Nat × Nat × Nat
def tcells (t : Tm) : List Value := [.int .u8 (t.1 : Int), .int .u8 (t.2.1 : Int), .int .u8 (t.2.2 : Int)]
def tv (t : Tm) : Value := .agg (tcells t).toArray
def Tm.ok (t : Tm) : Prop := t.1 < 256 ∧ t.2.1 < 256 ∧ t.2.2 < 256
def tls (t : Tm) : List Go.Lit := [.int .u8 (t.1 : Int), .int .u8 (t.2.1 : Int), .int .u8 (t.2.2 : Int)]
theorem teamLaw : WideMaps.KeyLaw Tryd.prog 79 := deep_law (m := 2) (by omega) (by kernel_rfl) (by kernel_rfl) (by rw [Tryd.underlying79])
theorem kt79 : Tryd.prog.keyType 79 = true := by kernel_rfl
theorem tsz : Tryd.prog.types.size + 1 = (Tryd.prog.types.size - 1) + 1 + 1 := by kernel_rfl
theorem co77 : Tryd.prog.cellsOf 77 = 1 := by kernel_rfl
theorem co79 : Tryd.prog.cellsOf 79 = 3 := by kernel_rfl
theorem u8wf (n : Nat) (h : n < 256) : (Go.Lit.int .u8 (n : Int)).wf = true := by
  simp [Go.Lit.wf, IntKind.min, IntKind.max, IntKind.signed, IntKind.bits]
  omega
theorem keyLits_u8 {n : Nat} (h : n < 256) (d : Nat) : Tryd.prog.keyLits (d + 1) 77 [.int .u8 (n : Int)] = some [.int .u8 (n : Int)] := by
  unfold Program.keyLits
  rw [Tryd.underlying77]
  simp [u8wf _ h]
theorem keyLits_team {t : Tm} (h : Tm.ok t) (d : Nat) : Tryd.prog.keyLits (d + 1 + 1) 79 (tcells t) = some (tls t) := by
  obtain ⟨h1, h2, h3⟩ := h
  rw [show Tryd.prog.keyLits (d + 1 + 1) 79 (tcells t) = if (tcells t).length = Tryd.prog.cellsOf 79 then ((List.range 3).mapM fun i => Tryd.prog.keyLits (d + 1) 77 (((tcells t).drop (i * Tryd.prog.cellsOf 77)).take (Tryd.prog.cellsOf 77))).map List.flatten else none from by
    conv => lhs; unfold Program.keyLits
    rw [Tryd.underlying79]]
  rw [co79, co77, if_pos (show (tcells t).length = 3 from rfl)]
  have e : List.range 3 = [0, 1, 2] := rfl
  rw [e]
  simp [tcells, tls, keyLits_u8 h1, keyLits_u8 h2, keyLits_u8 h3]
theorem keyOf_team {t : Tm} (h : Tm.ok t) : keyOf Tryd.prog 79 (tv t) = some (.string (keyBytes (tls t))) := by
  unfold keyOf
  rw [Tryd.underlying79]
  simp only [kt79, Bool.true_and]
  have hf : (tv t).formed Tryd.prog 79 = true := by
    simp [Value.formed, tv, Tryd.underlying79, co79, tcells]
  rw [if_pos hf, tsz]
  have : (tv t).cells.toList = tcells t := rfl
  rw [this, keyLits_team h]
  rfl
theorem tv_inj {t u : Tm} (h : tv t = tv u) : t = u := by
  obtain ⟨a, b, c⟩ := t
  obtain ⟨a', b', c'⟩ := u
  simp [tv, tcells] at h
  simp; omega
/-- The entries of the set that met these teams, in this order. -/
def ent (i : Nat) (t : Tm) : MapEntry := { key := tv t, val := .bool true, born := i }
def ents (l : List Tm) : List MapEntry := l.mapIdx ent
def metObj (l : List Tm) : Obj := .map (ents l).toArray l.length
theorem ents_keys {l : List Tm} {e : MapEntry} (h : e ∈ ents l) : ∃ t ∈ l, e.key = tv t ∧ e.val = .bool true := by
  obtain ⟨i, hi, e1⟩ := List.mem_iff_getElem.1 h
  simp [ents, ent] at e1
  subst e1
  exact ⟨_, List.getElem_mem _, rfl, rfl⟩
theorem mem_ents {l : List Tm} {t : Tm} (h : t ∈ l) : ∃ e ∈ ents l, e.key = tv t := by
  obtain ⟨i, hi, rfl⟩ := List.mem_iff_getElem.1 h
  exact ⟨(ents l)[i]'(by simpa [ents] using hi), List.getElem_mem _, by simp [ents, ent]⟩
section
variable {l : List Tm} {t : Tm} {w : World}
theorem find_team (hl : ∀ u ∈ l, Tm.ok u) (ht : Tm.ok t) : (t ∉ l ∧ (Instr.findKey 79 (tv t) (ents l)).run Tryd.prog w = .ok none w) ∨ (t ∈ l ∧ ∃ j, (Instr.findKey 79 (tv t) (ents l)).run Tryd.prog w = .ok (some (j, .bool true)) w) := by
  have hall : ∀ e ∈ ents l, ∃ x, keyOf Tryd.prog 79 e.key = some x := fun e he => by
    obtain ⟨u, hu, hk, _⟩ := ents_keys he
    exact ⟨_, by rw [hk]; exact keyOf_team (hl u hu)⟩
  rcases teamLaw.find w (keyOf_team ht) (ents l) hall with ⟨h1, h2⟩ | ⟨j, e, h1, h2, h3⟩
  · refine .inl ⟨fun hm => ?_, h1⟩
    obtain ⟨e, he, hk⟩ := mem_ents hm
    exact h2 e he hk
  · obtain ⟨u, hu, hk, hv⟩ := ents_keys (List.mem_of_getElem? h2)
    refine .inr ⟨?_, j, by rw [h1, hv]⟩
    rw [h3] at hk
    rw [tv_inj hk]; exact hu
theorem run_lookup_team {b : Nat} (hb : w.heap[b]? = some (metObj l)) (hl : ∀ u ∈ l, Tm.ok u) (ht : Tm.ok t) : (Instr.lookup 136 (.map (some b)) (tv t) false).run Tryd.prog w = .ok (.bool (decide (t ∈ l))) w := by
  have hck := teamLaw.check w (ents l).toArray.isEmpty (keyOf_team ht)
  have hz : (zeroValue 4).run Tryd.prog w = .ok (.bool false) w := by
    obtain ⟨i, hi, hz, _⟩ := TI.of (P := Tryd.prog) (t := 4) (z := .bool false) (size := 1) (bytes := 1) (by kernel_rfl)
    simp [zeroValue, typeInfo, hi, hz]
  have hg : (getObj b).run Tryd.prog w = .ok (metObj l) w := MapKept.run_getObj_map hb
  unfold Instr.lookup
  simp only [Sem.run_bind, run_underlying Tryd.underlying136, Result.andThen_ok, hg, metObj, Sem.run_pure, hck]
  rcases find_team (w := w) hl ht with ⟨h1, h2⟩ | ⟨h1, j, h2⟩
  · simp [h2, hz, h1]
  · simp [h2, h1]
theorem ents_push (l : List Tm) (t : Tm) : (ents l).toArray.push { key := tv t, val := .bool true, born := l.length } = (ents (l ++ [t])).toArray := by
  apply Array.ext'
  simp [ents, ent, List.mapIdx_append]
theorem run_update_team {b : Nat} (hb : w.heap[b]? = some (metObj l)) (hl : ∀ u ∈ l, Tm.ok u) (ht : Tm.ok t) (hn : t ∉ l) :
    (Instr.mapUpdate 136 (.map (some b)) (tv t) (.bool true)).run Tryd.prog w = .ok () { w with heap := w.heap.setIfInBounds b (metObj (l ++ [t])) } := by
  have hck := teamLaw.check w false (keyOf_team ht)
  have hg : (getObj b).run Tryd.prog w = .ok (metObj l) w := MapKept.run_getObj_map hb
  rcases find_team (w := w) hl ht with ⟨_, h2⟩ | ⟨h1, _⟩
  · unfold Instr.mapUpdate
    simp only [Sem.run_bind, run_underlying Tryd.underlying136, Result.andThen_ok, hg, metObj, hck, h2, ents_push]
    rw [MapKept.run_setObj_map _ hb]
    simp [metObj]
  · exact absurd h1 hn
end
theorem tv_np (t : Tm) : Np (tv t) := Np.ints (by intro x hx; simp [tcells] at hx; rcases hx with h | h | h <;> subst h <;> exact .int _ _)
instance TB.team (t : Tm) (u' : Value) : TB (tv t) u' := TB.agg (by have h := tv_np t; cases h with | agg xs h => exact h) u'
section
variable {C : Ctx} {fr : List (Nat × Value)} {hp hp' : List Res} {a : Act} {w : World} {ops : Array Oper} {Q : Exit → Act → World → Prop} {rest : List Oper}
  {d : Nat} {ty : TypeId} {pos : String} {after : Array Edge}
theorem yld_lookup_team {dst : Option Tmp} (hC : C.P = Tryd.prog) {x y : Operand} {b : Nat} {l : List Tm} {t : Tm} (hx : ev fr x = some (.map (some b))) (hy : ev fr y = some (tv t)) (hm : Res.blk b (metObj l) ∈ hp) (hl : ∀ u ∈ l, Tm.ok u) (ht : Tm.ok t) :
    Yld C ⟨dst, .lookup 136 x y false, ty, pos, after, none⟩ fr hp (.bool (decide (t ∈ l))) := by
  refine ⟨rfl, fun a w ha => ⟨tame_lookup (ha.eval hy) (tv_np t), ?_⟩⟩
  have := run_lookup_team (ha.mem_blk hm) hl ht
  simp [execOp, ha.eval hx, ha.eval hy, hC, this]
theorem grownBy_setObj (w : World) (b : Nat) (o : Obj) : w.grownBy { w with heap := w.heap.setIfInBounds b o } (some b) :=
  ⟨rfl, rfl, rfl, by simp, fun k _ hk => by
    simp only [Array.getElem?_setIfInBounds]
    rw [if_neg (fun e => hk (by rw [e]))]⟩
theorem lst_update_team (hC : C.P = Tryd.prog) {x y : Operand} {b : Nat} {l : List Tm} {t : Tm} (hx : ev fr x = some (.map (some b))) (hy : ev fr y = some (tv t)) (hl : ∀ u ∈ l, Tm.ok u) (ht : Tm.ok t) (hn : t ∉ l)
    (hu : Upd (.blk b (metObj l)) (.blk b (metObj (l ++ [t]))) hp hp') (k : Lst C ops Q rest fr hp') : Lst C ops Q (⟨none, .mapUpdate 136 x y (.const (.bool true)), ty, pos, after, none⟩ :: rest) fr hp := by
  refine lst_skip (fun a w ha => tame_mapUpdate (ha.eval hy) (tv_np t)) (fun a w ha => ?_) k
  have hb := ha.own _ hu.mem
  have h1 := run_update_team hb.2 hl ht hn
  refine ⟨{ w with heap := w.heap.setIfInBounds b (metObj (l ++ [t])) }, ?_, ?_⟩
  · simp only [execOp, ha.eval hx, ha.eval hy, show a.eval (.const (.bool true)) = .bool true from rfl, hC, Sem.run_bind, h1]
    rfl
  · refine ha.turn hu (grownBy_setObj w b _) ⟨hb.1, ?_⟩ (fun k hk => .inl hk)
    have hlt : b < w.heap.size := (Array.getElem?_eq_some_iff.1 hb.2).1
    simp [Array.getElem?_setIfInBounds, hlt]
/-- Two teams: are they apart? -/
theorem run_neq_team {t u : Tm} (ht : Tm.ok t) (hu : Tm.ok u) (x y : Operand) (w : World) : (do eqGuard .neq 79 x y (tv t) (tv u); binOp .neq 79 (tv t) (tv u) : Sem Value).run Tryd.prog w = .ok (.bool (decide (t ≠ u))) w := by
  obtain ⟨r, hr, hiff⟩ := run_equal_deep (P := Tryd.prog) w (m := 2) (by omega) (k := 79) (by kernel_rfl) (by rw [Tryd.underlying79]) (keyOf_team ht) (keyOf_team hu)
  have hg : (eqGuard .neq 79 x y (tv t) (tv u)).run Tryd.prog w = .ok () w := by
    have h1 : Tryd.prog.eqGuardType Tryd.prog.depth 79 = false := by kernel_rfl
    have hp : (program : Sem Program).run Tryd.prog w = .ok Tryd.prog w := rfl
    simp only [eqGuard, tv, Sem.run_bind, hp, Result.andThen_ok, h1]
    simp
  have hb : (binOp .neq 79 (tv t) (tv u)).run Tryd.prog w = .ok (.bool (!r)) w := by
    show (do pure (.bool (!(← Op.equal 79 (tv t) (tv u)))) : Sem Value).run Tryd.prog w = _
    simp only [Sem.run_bind, hr, Result.andThen_ok, Sem.run_pure]
  simp only [Sem.run_bind, hg, Result.andThen_ok, hb]
  have e1 : r = true ↔ t = u := by
    rw [hiff]
    constructor
    · intro e
      exact tv_inj (teamLaw.inj (by rw [keyOf_team ht, e]) (keyOf_team hu))
    · rintro rfl; rfl
  have e2 : (!r) = decide (t ≠ u) := by
    cases r with
    | true => simp [e1.1 rfl]
    | false =>
      have : t ≠ u := fun e => by have := e1.2 e; cases this
      simp [this]
  rw [e2]
end
end Go.Proofs.YtofkhehcnfiopaaDoor.N
namespace Go.Proofs.YtofkhehcnfiopaaDoor.N
open Go Go.RowKit Go.Proofs
set_option linter.unusedSectionVars false
variable [I : Sys]
def ncell (n : Nat) : List Value := [.int .i64 (n : Int)]
section
variable {C : Ctx} {fr : List (Nat × Value)} {hp hp' : List Res} {a : Act} {w : World} {ops : Array Oper} {Q : Exit → Act → World → Prop} {rest : List Oper}
  {d : Nat} {ty : TypeId} {pos : String} {after : Array Edge}
theorem row_at (ha : At C fr hp a w) {α : Type} {cells : α → List Value} {size e n c g k j : Nat} {l : List α} {x : α} {u : Value} (hm : Res.row e size (some ⟨g, 0, none⟩) n c (l.flatMap cells) ∈ hp) (hs : ∀ x, (cells x).length = size) (hk : l[k]? = some x) (hu : (cells x)[j]? = some u) :
    w.cell? ⟨g, 0 + k * size + j, none⟩ = some u := by
  rw [Nat.zero_add]
  exact row_cell ha hm rfl (flatMap_get hs l k x hk j u hu)
theorem que_at (ha : At C fr hp a w) {α : Type} {cells : α → List Value} {size e n c g o k j : Nat} {l : List α} {x : α} {u : Value} (hm : Res.que e size (some ⟨g, o, none⟩) n c (l.flatMap cells) ∈ hp) (hs : ∀ x, (cells x).length = size) (hk : l[k]? = some x) (hu : (cells x)[j]? = some u) :
    w.cell? ⟨g, o + k * size + j, none⟩ = some u := by
  rw [Nat.add_assoc]
  exact que_cell ha hm _ _ (flatMap_get hs l k x hk j u hu)
/-- A slice's literal of no elements may grow. -/
theorem At.as_row (ha : At C fr hp a w) {b e size : Nat} (hu : Upd (.blk b (.cells ([] : List Value).toArray e (0, 0))) (.row e size (some ⟨b, 0, none⟩) 0 0 []) hp hp') : At C fr hp' a w := by
  have hb := ha.own _ hu.mem
  refine ha.turn hu (⟨rfl, rfl, rfl, Nat.le_refl _, fun _ _ _ => rfl⟩ : w.grownBy w _) ⟨by simp, .inr ⟨b, 0, #[], rfl, hb.1, hb.2, Nat.le_refl _, Nat.zero_le _, by simp, by simp⟩⟩ (fun k hk => .inl ?_)
  exact hk
theorem lst_as_row {l : List Oper} {b e : Nat} (size : Nat) (hu : Upd (.blk b (.cells ([] : List Value).toArray e (0, 0))) (.row e size (some ⟨b, 0, none⟩) 0 0 []) hp hp') (h : Lst C ops Q l fr hp') : Lst C ops Q l fr hp := fun a w ha => h a w (ha.as_row hu)
/-- What is appended lies where it is known to lie. -/
theorem lst_append_at {x y : Operand} {t e : TypeId} {A : Option Addr} {p : Addr} {n c m cb size bytes : Nat} {xs news : List Value} {z : Value} {hp' : Option Addr → Nat → List Res} (hd : Nat.blt d C.N = true)
    (hx : ev fr x = some (.slice A n c)) (hy : ev fr y = some (.slice (some p) m cb)) (ht : C.P.underlying t = some (.slice e)) (hi : TI C.P e z size bytes) (hzs : z.cells.size = size) (hs0 : Nat.blt 0 size = true)
    (hnews : ∀ a w, At C fr hp a w → ∀ j u, news[j]? = some u → w.cell? (p.add j) = some u) (hl : news.length = m * size) (ho : ∀ u ∈ news, u.oneCell' = true) [hr : InR A e size n c xs hp] [hu : ∀ A' c', UpR A e size n c xs (.row e size A' (n + m) c' (xs ++ news)) hp (hp' A' c')]
    (hplace : ∀ (w : World) (v' : Value) (w' : World), w.ownsRow C.B e size (.slice A n c) n xs → (∀ j u, news[j]? = some u → w.cell? (p.add j) = some u) → (Builtin.append_ #[t, t] ty #[.slice A n c, .slice (some p) m cb]).run C.P w = .ok v' w' → ∀ k, v'.ownBlock = some k → (Value.slice A n c).ownBlock = some k ∨ w.heap.size ≤ k)
    (h63 : n + m ≤ maxLen) (hbytes : (n + m) * bytes ≤ 140737488355328)
    (k : ∀ A' c', Lst C ops Q rest ((d, .slice A' (n + m) c') :: fr) (hp' A' c')) :
    Lst C ops Q (⟨some d, .call { callee := .builtin .append, args := #[x, y], argTypes := #[t, t] }, ty, pos, after, none⟩ :: rest) fr hp := by
  refine lst_of rfl fun a w ha => ?_
  obtain ⟨i, hi1, hi2, hi3, hi4⟩ := hi
  have hown := ha.own _ hr.mem
  subst hi3; subst hi4
  obtain ⟨v', w', hrun, hown', hg, _⟩ := run_append_own (P := C.P) w C.B t ty e i z i.size i.bytes ht hi1 hi2 rfl rfl hzs (lt_of_blt hs0) _ n xs hown p m cb news hl (hnews a w ha) ho h63 hbytes ha.base
  have hpl := hplace w v' w' hown (hnews a w ha) hrun
  obtain ⟨A', c', rfl⟩ := ownsRow_shape hown'
  refine ⟨tame_builtin fun cs => by simp only [List.map_toArray, List.map_cons, List.map_nil, ha.eval hx, ha.eval hy]; exact tame_append ht, ?_⟩
  have hr' : (execOp a.eval ⟨some d, .call { callee := .builtin .append, args := #[x, y], argTypes := #[t, t] }, ty, pos, after, none⟩).run C.P w = .ok (.value (.slice A' (n + m) c')) w' := by
    simp only [execOp, resolve, invoke, builtin, Sem.run_bind, Sem.run_pure, Result.andThen_ok, List.map_toArray, List.map_cons, List.map_nil, ha.eval hx, ha.eval hy, hrun]
  rw [hr']
  exact k A' c' _ _ ((ha.turn (hu A' c').upd hg hown' hpl).put (lt_of_blt hd) _)
/-- A list of numbers, appended. -/
theorem lst_append_ints {x y : Operand} {t e : TypeId} {A : Option Addr} {p : Addr} {n c m cb bytes : Nat} {xs : List Value} {l : List Nat} {z : Value} {hp' : Option Addr → Nat → List Res} (hd : Nat.blt d C.N = true)
    (hx : ev fr x = some (.slice A n c)) (hy : ev fr y = some (.slice (some p) m cb)) (ht : C.P.underlying t = some (.slice e)) (hi : TI C.P e z 1 bytes) (hzs : z.cells.size = 1)
    (hnews : ∀ a w, At C fr hp a w → ∀ j u, (ints l)[j]? = some u → w.cell? (p.add j) = some u) (hl : l.length = m) [hr : InR A e 1 n c xs hp] [hu : ∀ A' c', UpR A e 1 n c xs (.row e 1 A' (n + m) c' (xs ++ ints l)) hp (hp' A' c')]
    (h63 : n + m ≤ maxLen) (hbytes : (n + m) * bytes ≤ 140737488355328)
    (k : ∀ A' c', Lst C ops Q rest ((d, .slice A' (n + m) c') :: fr) (hp' A' c')) :
    Lst C ops Q (⟨some d, .call { callee := .builtin .append, args := #[x, y], argTypes := #[t, t] }, ty, pos, after, none⟩ :: rest) fr hp := by
  have ho : ∀ u ∈ ints l, u.oneCell' = true := by
    intro u hu'
    obtain ⟨n, _, rfl⟩ := List.mem_map.1 hu'
    simp [Value.oneCell']
  have hi' := hi
  obtain ⟨i, hi1, hi2, hi3, hi4⟩ := hi'
  subst hi4
  refine lst_append_at hd hx hy ht hi hzs rfl hnews (by rw [ints_len]; omega) ho (fun w v' w' hown hn hrun => ?_) h63 hbytes k
  exact append_place ht hi1 hi2 (hi3 ▸ hown) (by rw [ints_len, hi3]; omega) hn ho h63 hbytes hrun
/-- A slice and nil. -/
theorem run_eql_nil {t e : TypeId} {P : Program} (ht : P.underlying t = some (.slice e)) (A : Option Addr) (n c : Nat) (x y : Operand) (w : World) :
    (do eqGuard .eql t x y (.slice A n c) (.slice none 0 0); binOp .eql t (.slice A n c) (.slice none 0 0) : Sem Value).run P w = .ok (.bool A.isNone) w := by
  have hg : (eqGuard .eql t x y (.slice A n c) (.slice none 0 0)).run P w = .ok () w := by simp [eqGuard]
  have hb : (binOp .eql t (.slice A n c) (.slice none 0 0)).run P w = .ok (.bool A.isNone) w := by
    show (do pure (.bool (← Op.equal t (.slice A n c) (.slice none 0 0))) : Sem Value).run P w = _
    have he : (Op.equal t (.slice A n c) (.slice none 0 0)).run P w = .ok A.isNone w := by
      show (Op.equalIn (9999 + 1) t (.slice A n c) (.slice none 0 0)).run P w = _
      unfold Op.equalIn
      simp only [Sem.run_bind, run_underlying ht, Result.andThen_ok]
      cases A <;> simp
    simp only [Sem.run_bind, he, Result.andThen_ok, Sem.run_pure]
  simp only [Sem.run_bind, hg, Result.andThen_ok, hb]
/-- One cell of a block, at whatever place. -/
theorem lst_store_any {x y : Operand} {t ct : TypeId} {b o : Nat} {cs cs' : List Value} {v z : Value} {m : Nat} (hx : ev fr x = some (.pointer (some ⟨b, o, none⟩))) (hy : ev fr y = some v) (hi : TI C.P t z 1 m) [hc : Cells v [v]]
    (ho : o < cs.length) (hcs : cs' = cs.set o v) (hu : Upd (.blk b (.cells cs.toArray ct (0, 0))) (.blk b (.cells cs'.toArray ct (0, 0))) hp hp')
    (k : Lst C ops Q rest fr hp') : Lst C ops Q (⟨none, .store t x y, ty, pos, after, none⟩ :: rest) fr hp := by
  obtain ⟨i, hi, _, hsz, _⟩ := hi
  refine lst_skip (fun _ _ _ => tame_storeOp ..) (fun a w ha => ?_) k
  have hs : Splice cs o [v] cs' := ⟨by rw [hcs, List.set_eq_take_append_cons_drop, if_pos ho, List.append_assoc]; rfl, by simp; omega⟩
  obtain ⟨w', h1, h2, h3⟩ := splice_upd hs (ha.mem_blk hu.mem) hc.one C.P
  refine ⟨w', ?_, ha.turn hu h3 ⟨(ha.own _ hu.mem).1, h2⟩ (fun k hk => .inl hk)⟩
  simp [execOp, ha.eval hx, ha.eval hy, Instr.storeAt, Instr.sureAddr, storeVar, sizeOf, typeInfo, hi, hc.eq, hsz, h1]
end
theorem RdL.ints_at {w : World} {p : Addr} {l : List Nat} (h : RdL ncell 1 w (some p) l) {j : Nat} {u : Value} (hu : (ints l)[j]? = some u) : w.cell? (p.add j) = some u := by
  have hj : j < l.length := by
    rcases Nat.lt_or_ge j l.length with h1 | h1
    · exact h1
    · rw [List.getElem?_eq_none (by rw [ints_len]; exact h1)] at hu; cases hu
  obtain ⟨b, o, h1, _, h3⟩ := h (by omega)
  cases h1
  have := h3 j l[j] (List.getElem?_eq_getElem hj) 0 u (by
    simp only [ints, List.getElem?_map, List.getElem?_eq_getElem hj, Option.map_some] at hu
    exact hu)
  rw [addr_add]
  simpa using this
theorem ints_flat (l : List Nat) : ints l = l.flatMap ncell := by
  induction l with
  | nil => rfl
  | cons n l ih => rw [List.flatMap_cons, ← ih]; rfl
/-- A map is cleared. -/
theorem lst_clear_map {C : Ctx} {fr : List (Nat × Value)} {hp hp' : List Res} {ops : Array Oper} {Q : Exit → Act → World → Prop} {rest : List Oper} {ty : TypeId} {pos : String} {after : Array Edge}
    {x : Operand} {t k e b n : Nat} {es : Array MapEntry} (hx : ev fr x = some (.map (some b))) (ht : C.P.underlying t = some (.map k e)) (hu : Upd (.blk b (.map es n)) (.blk b (.map #[] n)) hp hp')
    (kk : Lst C ops Q rest fr hp') : Lst C ops Q (⟨none, .call { callee := .builtin .clear, args := #[x], argTypes := #[t] }, ty, pos, after, none⟩ :: rest) fr hp := by
  refine lst_of rfl fun a w ha => ?_
  have hb := ha.own _ hu.mem
  have hlt : b < w.heap.size := (Array.getElem?_eq_some_iff.1 hb.2).1
  refine ⟨tame_builtin fun _ => tame_clear, ?_⟩
  have hr : (execOp a.eval ⟨none, .call { callee := .builtin .clear, args := #[x], argTypes := #[t] }, ty, pos, after, none⟩).run C.P w = .ok (.value (.tuple #[])) { w with heap := w.heap.setIfInBounds b (.map #[] n) } := by
    simp [execOp, resolve, invoke, builtin, ha.eval hx, Builtin.clear_, run_underlying ht, MapKept.run_getObj_map hb.2, MapKept.run_setObj_map _ hb.2]
  rw [hr]
  refine kk _ _ ?_
  exact ha.turn hu (grownBy_setObj w b _) ⟨hb.1, by simp [hlt]⟩ (fun k hk => .inl hk)
/-- A walk through teams: who, in which order; where it led. -/
structure Wk where
  A : Option Addr
  c : Nat
  how : List Nat
  team : Tm
def Wk.cells (k : Wk) : List Value := .slice k.A k.how.length k.c :: tcells k.team
def Wk.res (k : Wk) : Res := .row 3 1 k.A k.how.length k.c (ints k.how)
theorem Wk.cells_len (k : Wk) : k.cells.length = 4 := rfl
def pushT (todo : List Wk) (met : List Tm) (k : Wk) : List Wk := if k.team ∈ met then todo else todo ++ [k]
def pushM (met : List Tm) (t : Tm) : List Tm := if t ∈ met then met else met ++ [t]
end Go.Proofs.YtofkhehcnfiopaaDoor.N
namespace Go.Proofs.YtofkhehcnfiopaaDoor.N
open Go Go.RowKit Go.Proofs
set_option linter.unusedSectionVars false
variable [I : Sys]
theorem F.agg142 : aggB Tryd.prog 142 = true := by unfold aggB; rw [Tryd.underlying142]
theorem F.agg79 : aggB Tryd.prog 79 = true := by unfold aggB; rw [Tryd.underlying79]
theorem F.fi139_0 : FI Tryd.prog 139 0 137 0 := ⟨_, _, Tryd.underlying139, rfl, rfl, rfl⟩
theorem F.fi139_1 : FI Tryd.prog 139 1 136 1 := ⟨_, _, Tryd.underlying139, rfl, rfl, rfl⟩
theorem F.follows : Tryd.prog.follows .mixedOrders = true := by kernel_rfl
theorem F.one136 : One Tryd.prog 136 := ⟨by unfold aggB; rw [Tryd.underlying136], by rw [Tryd.underlying136]; simp⟩
theorem F.one137 : One Tryd.prog 137 := ⟨by unfold aggB; rw [Tryd.underlying137], by rw [Tryd.underlying137]; simp⟩
theorem F.ti136 : TI Tryd.prog 136 (.map none) 1 8 := TI.of (by kernel_rfl)
theorem F.ti137 : TI Tryd.prog 137 (.slice none 0 0) 1 24 := TI.of (by kernel_rfl)
theorem F.ti142 : TI Tryd.prog 142 (.agg [.slice none 0 0, .int .u8 0, .int .u8 0, .int .u8 0].toArray) 4 32 := TI.of (by kernel_rfl)
theorem F.ti79 : TI Tryd.prog 79 (.agg [.int .u8 0, .int .u8 0, .int .u8 0].toArray) 3 3 := TI.of (by kernel_rfl)
theorem clone_c (A : Option Addr) (c : Nat) (l : List Nat) (hl : l.length ≤ 400000) (hn : A = none → l = []) (w : World) (hA : RdL ncell 1 w A l) : Calls Tryd.prog 114 #[.slice A l.length c] w fun e w' => ∃ A' c', e = .returned (.slice A' l.length c') ∧ Grew w w' [.row 3 1 A' l.length c' (ints l)] := by
  refine enter (N := 8) [(0, .slice A l.length c)] Tryd.func114 rfl Tryd.ntmps114 rfl rfl ?_
  refine cod_seq ?_
  refine cod_region ?_
  refine lst_assign rfl rfl ?_
  refine lst_nil ?_
  refine ex_then ?_
  refine cod_seq ?_
  refine cod_seq ?_
  refine cod_region ?_
  refine lst_move rfl rfl ?_
  refine lst_bin rfl rfl rfl (run_eql_nil Tryd.underlying25 _ _ _ _ _) ?_
  refine lst_nil ?_
  refine ex_then ?_
  refine cod_cond_bool rfl (fun hc0 => ?_) (fun hc0 => ?_)
  · skip
    refine cod_seq ?_
    refine cod_region ?_
    refine lst_assign rfl rfl ?_
    refine lst_nil ?_
    refine ex_then ?_
    refine cod_ret ?_
    refine ex_then_ret ?_
    have hA0 : A = none := by cases A with
      | none => rfl
      | some p => cases hc0
    obtain rfl := hn hA0
    exact ex_ret rfl (fun a w ha => res_one rfl rfl ha) (fun a w ha => ⟨none, 0, rfl, (ha.add_nil 3 1).grown sbl⟩)
  · skip
    obtain ⟨p, rfl⟩ : ∃ p, A = some p := by cases A with
      | none => cases hc0
      | some p => exact ⟨p, rfl⟩
    refine cod_skip ?_
    refine ex_then ?_
    refine cod_seq ?_
    refine cod_region ?_
    refine lst_lit0 rfl Tryd.underlying25 F.ti3 ?_
    intro b5
    refine lst_as_row 1 (.head _) ?_
    refine lst_move rfl rfl ?_
    refine lst_append_ints rfl rfl rfl Tryd.underlying25 F.ti3 rfl (fun a w ha j u hu => (hA.later ha.below).ints_at hu) rfl (by unfold maxLen; omega) (by omega) ?_
    intro A1 c1
    refine lst_assign rfl rfl ?_
    refine lst_nil ?_
    refine ex_then ?_
    refine cod_ret ?_
    simp only [Nat.zero_add, List.nil_append]
    exact ex_ret rfl (fun a w ha => res_one rfl rfl ha) (fun a w ha => ⟨A1, c1, rfl, ha.grown sbl⟩)

theorem push_c {C : Ctx} {fr : List (Nat × Value)} {T : List Res} {a : Act} {w : World} (hC : C.P = Tryd.prog) {bq bm : Nat} {A : Option Addr} {c : Nat} {todo : List Wk} {met : List Tm} {k : Wk} (hlen : todo.length ≤ 400000) (hmet : ∀ u ∈ met, Tm.ok u) (hk : Tm.ok k.team) (ha : At C fr (.blk bq (.cells [.slice A todo.length c, .map (some bm)].toArray 139 (0, 0)) :: .blk bm (metObj met) :: .que 142 4 A todo.length c (todo.flatMap Wk.cells) :: T) a w) : Calls C.P 112 #[.pointer (some ⟨bq, 0, none⟩), .agg [.int .u8 (k.team.1 : Int), .int .u8 (k.team.2.1 : Int), .int .u8 (k.team.2.2 : Int)].toArray, .agg [.slice k.A k.how.length k.c, .int .u8 (k.team.1 : Int), .int .u8 (k.team.2.1 : Int), .int .u8 (k.team.2.2 : Int)].toArray] w fun e w' => ∃ A' c', e = .returned (.tuple #[]) ∧ At C fr (.blk bq (.cells [.slice A' (pushT todo met k).length c', .map (some bm)].toArray 139 (0, 0)) :: .blk bm (metObj (pushM met k.team)) :: .que 142 4 A' (pushT todo met k).length c' ((pushT todo met k).flatMap Wk.cells) :: T) a w' := by
  obtain ⟨P, B, w0, N0, ds⟩ := C
  obtain rfl : P = Tryd.prog := hC
  refine enter_in (N := 28) [(0, .pointer (some ⟨bq, 0, none⟩)), (1, .agg [.int .u8 (k.team.1 : Int), .int .u8 (k.team.2.1 : Int), .int .u8 (k.team.2.2 : Int)].toArray), (2, .agg [.slice k.A k.how.length k.c, .int .u8 (k.team.1 : Int), .int .u8 (k.team.2.1 : Int), .int .u8 (k.team.2.2 : Int)].toArray)] ha Tryd.func112 rfl Tryd.ntmps112 rfl rfl ?_
  refine cod_seq ?_
  refine cod_region ?_
  refine lst_box rfl rfl ?_
  intro b4
  refine lst_box rfl rfl ?_
  intro b5
  refine lst_nil ?_
  refine ex_then ?_
  refine cod_seq ?_
  refine any_begin [] F.follows 7 rfl [false, false, false, false, false, false, false] rfl ?_
  refine any_tk 0 rfl rfl rfl (yld_move rfl) ?_
  refine any_tk 1 rfl rfl rfl (yld_nilCheck rfl) ?_
  refine any_tk 2 rfl rfl rfl (yld_field_z rfl F.fi139_1 F.ti136) ?_
  refine any_tk 3 rfl rfl rfl (yld_load rfl F.one136) ?_
  refine any_tk 4 rfl rfl rfl (yld_loadN rfl F.agg79 F.ti79) ?_
  refine any_tk 5 rfl rfl rfl (yld_lookup_team rfl (t := k.team) rfl rfl (by simp) hmet hk) ?_
  refine any_tk 6 rfl rfl rfl (yld_not rfl) ?_
  refine any_done rfl (by kernel_rfl) ?_
  refine ex_then ?_
  refine cod_cond_bool rfl (fun hc0 => ?_) (fun hc0 => ?_)
  · skip
    have hm : k.team ∉ met := by simpa using hc0
    have e1 : pushT todo met k = todo ++ [k] := if_neg hm
    have e2 : pushM met k.team = met ++ [k.team] := if_neg hm
    rw [e1, e2]
    refine cod_seq ?_
    refine any_begin [.b bm] F.follows 6 rfl [false, false, false, false, false, false] rfl ?_
    refine any_tk 0 rfl rfl rfl (yld_move rfl) ?_
    refine any_tk 1 rfl rfl rfl (yld_nilCheck rfl) ?_
    refine any_tk 2 rfl rfl rfl (yld_field_z rfl F.fi139_1 F.ti136) ?_
    refine any_tk 3 rfl rfl rfl (yld_load rfl F.one136) ?_
    refine any_tk 4 rfl rfl rfl (yld_loadN rfl F.agg79 F.ti79) ?_
    refine any_one 5 (by kernel_rfl) rfl rfl ?_
    refine lst_update_team rfl (t := k.team) rfl rfl hmet hk hm UpB.upd ?_
    refine lst_nil ?_
    refine any_next sbl ?_
    refine any_done rfl (by kernel_rfl) ?_
    refine ex_then ?_
    refine any_begin [.b bq, .q A] F.follows 11 rfl [false, false, false, false, false, false, false, false, false, false, false] rfl ?_
    refine any_tk 0 rfl rfl rfl (yld_move rfl) ?_
    refine any_tk 1 rfl rfl rfl (yld_move rfl) ?_
    refine any_tk 2 rfl rfl rfl (yld_nilCheck rfl) ?_
    refine any_tk 3 rfl rfl rfl (yld_field_z rfl F.fi139_0 F.ti137) ?_
    refine any_tk 5 rfl rfl rfl (yld_loadN rfl F.agg142 F.ti142) ?_
    refine any_two 4 6 (by kernel_rfl) rfl rfl rfl rfl ?_ ?_
    · skip
      refine lst_load rfl rfl F.one137 ?_
      refine lst_nil ?_
      refine any_next sbl ?_
      refine any_one 6 (by kernel_rfl) rfl rfl ?_
      refine lst_litN (vs := [(0, _)]) [_, _, _, _] rfl rfl Tryd.underlying137 F.ti142 rfl rfl rfl ⟨rfl, [_, _, _, _], [], rfl, rfl, rfl, rfl⟩ ?_
      intro b24
      refine lst_nil ?_
      refine any_next sbl ?_
      refine any_one 7 (by kernel_rfl) rfl rfl ?_
      refine lst_append_que rfl rfl rfl Tryd.underlying137 F.ti142 rfl rfl rfl (by unfold maxLen; omega) (by omega) ?_
      intro A1 c1
      refine lst_nil ?_
      refine any_next sbl ?_
      refine any_tk 8 rfl rfl rfl (yld_nilCheck rfl) ?_
      refine any_tk 9 rfl rfl rfl (yld_field_z rfl F.fi139_0 F.ti137) ?_
      refine any_one 10 (by kernel_rfl) rfl rfl ?_
      refine lst_store rfl rfl F.ti137 rfl ?_
      refine lst_nil ?_
      refine any_next sbl ?_
      refine any_done rfl (by kernel_rfl) ?_
      rw [List.length_append, List.length_singleton, List.flatMap_append, List.flatMap_singleton]
      exact ex_end rfl (fun a w ha => res_none rfl ha) (fun _ _ ha' => ⟨A1, c1, rfl, ha.back (ha'.pck (by repeat (first | exact Pck.nil _ | exact Pck.refl _ | (apply Pck.cons; focus (repeat (first | exact Rem.here _ | apply Rem.there))) | refine Pck.skip _ ?_)))⟩)
    · skip
      refine lst_litN (vs := [(0, _)]) [_, _, _, _] rfl rfl Tryd.underlying137 F.ti142 rfl rfl rfl ⟨rfl, [_, _, _, _], [], rfl, rfl, rfl, rfl⟩ ?_
      intro b24
      refine lst_nil ?_
      refine any_next sbl ?_
      refine any_one 4 (by kernel_rfl) rfl rfl ?_
      refine lst_load rfl rfl F.one137 ?_
      refine lst_nil ?_
      refine any_next sbl ?_
      refine any_one 7 (by kernel_rfl) rfl rfl ?_
      refine lst_append_que rfl rfl rfl Tryd.underlying137 F.ti142 rfl rfl rfl (by unfold maxLen; omega) (by omega) ?_
      intro A1 c1
      refine lst_nil ?_
      refine any_next sbl ?_
      refine any_tk 8 rfl rfl rfl (yld_nilCheck rfl) ?_
      refine any_tk 9 rfl rfl rfl (yld_field_z rfl F.fi139_0 F.ti137) ?_
      refine any_one 10 (by kernel_rfl) rfl rfl ?_
      refine lst_store rfl rfl F.ti137 rfl ?_
      refine lst_nil ?_
      refine any_next sbl ?_
      refine any_done rfl (by kernel_rfl) ?_
      rw [List.length_append, List.length_singleton, List.flatMap_append, List.flatMap_singleton]
      exact ex_end rfl (fun a w ha => res_none rfl ha) (fun _ _ ha' => ⟨A1, c1, rfl, ha.back (ha'.pck (by repeat (first | exact Pck.nil _ | exact Pck.refl _ | (apply Pck.cons; focus (repeat (first | exact Rem.here _ | apply Rem.there))) | refine Pck.skip _ ?_)))⟩)
  · skip
    have hm : k.team ∈ met := by simpa using hc0
    have e1 : pushT todo met k = todo := if_pos hm
    have e2 : pushM met k.team = met := if_pos hm
    rw [e1, e2]
    refine cod_skip ?_
    exact ex_end rfl (fun a w ha => res_none rfl ha) (fun _ _ ha' => ⟨A, c, rfl, ha.back (ha'.pck (by repeat (first | exact Pck.nil _ | exact Pck.refl _ | (apply Pck.cons; focus (repeat (first | exact Rem.here _ | apply Rem.there))) | refine Pck.skip _ ?_)))⟩)

theorem pop_none {C : Ctx} {fr : List (Nat × Value)} {T : List Res} {a : Act} {w : World} (hC : C.P = Tryd.prog) {bq bm : Nat} {A : Option Addr} {c : Nat} {met : List Tm} (ha : At C fr (.blk bq (.cells [.slice A 0 c, .map (some bm)].toArray 139 (0, 0)) :: .blk bm (metObj met) :: .que 142 4 A 0 c ([]) :: T) a w) : Calls C.P 113 #[.pointer (some ⟨bq, 0, none⟩)] w fun e w' => e = .returned (.tuple #[.agg [.slice none 0 0, .int .u8 0, .int .u8 0, .int .u8 0].toArray, .bool false]) ∧ At C fr T a w' := by
  obtain ⟨P, B, w0, N0, ds⟩ := C
  obtain rfl : P = Tryd.prog := hC
  refine enter_in (N := 32) [(0, .pointer (some ⟨bq, 0, none⟩))] ha Tryd.func113 rfl Tryd.ntmps113 rfl rfl ?_
  refine cod_seq ?_
  refine cod_region ?_
  refine lst_alloc rfl F.ti142 ?_
  intro b2
  refine lst_assign rfl rfl ?_
  refine lst_nil ?_
  refine ex_then ?_
  refine cod_seq ?_
  refine cod_seq ?_
  refine cod_region ?_
  refine lst_move rfl rfl ?_
  refine lst_nilCheck rfl rfl ?_
  refine lst_field_z rfl rfl F.fi139_0 F.ti137 ?_
  refine lst_load rfl rfl F.one137 ?_
  refine lst_len rfl rfl Tryd.underlying137 ?_
  refine lst_int rfl rfl rfl bin_eql ?_
  refine lst_nil ?_
  refine ex_then ?_
  refine cod_cond_dec rfl (fun hc0 => ?_) (fun hc0 => ?_)
  · skip
    refine cod_seq ?_
    refine cod_region ?_
    refine lst_move rfl rfl ?_
    refine lst_nilCheck rfl rfl ?_
    refine lst_field_z rfl rfl F.fi139_1 F.ti136 ?_
    refine lst_load rfl rfl F.one136 ?_
    refine lst_clear_map rfl Tryd.underlying136 (UpB.upd (b := bm)) ?_
    refine lst_nil ?_
    refine ex_then ?_
    refine cod_seq ?_
    refine cod_region ?_
    refine lst_alloc rfl F.ti142 ?_
    intro b4
    refine lst_nil ?_
    refine ex_then ?_
    refine cod_seq ?_
    refine cod_region ?_
    refine lst_loadN rfl rfl F.agg142 F.ti142 ?_
    refine lst_store rfl rfl F.ti142 rfl ?_
    refine lst_assign rfl rfl ?_
    refine lst_nil ?_
    refine ex_then ?_
    refine cod_ret ?_
    refine ex_then_ret ?_
    exact ex_ret rfl (fun a w ha => by exact res_cellN_tmp (ha := ha) rfl rfl rfl F.agg142 F.ti142 rfl) (fun _ _ ha' => ⟨rfl, ha.back (ha'.drop_res sbl)⟩)
  · skip
    exact (hc0 rfl).elim -- done

theorem pop_some {C : Ctx} {fr : List (Nat × Value)} {T : List Res} {a : Act} {w : World} (hC : C.P = Tryd.prog) {bq bm : Nat} {A : Option Addr} {c : Nat} {met : List Tm} {todo : List Wk} {k : Wk} (ha : At C fr (.blk bq (.cells [.slice A (todo.length + 1) c, .map (some bm)].toArray 139 (0, 0)) :: .blk bm (metObj met) :: .que 142 4 A (todo.length + 1) c ((k :: todo).flatMap Wk.cells) :: T) a w) : Calls C.P 113 #[.pointer (some ⟨bq, 0, none⟩)] w fun e w' => ∃ A' c', e = .returned (.tuple #[.agg [.slice k.A k.how.length k.c, .int .u8 (k.team.1 : Int), .int .u8 (k.team.2.1 : Int), .int .u8 (k.team.2.2 : Int)].toArray, .bool true]) ∧ At C fr (.blk bq (.cells [.slice A' todo.length c', .map (some bm)].toArray 139 (0, 0)) :: .blk bm (metObj met) :: .que 142 4 A' todo.length c' (todo.flatMap Wk.cells) :: T) a w' := by
  obtain ⟨g, o, rfl⟩ := que_some ha (InQ.mem (A := A)) (Nat.succ_pos _)
  obtain ⟨P, B, w0, N0, ds⟩ := C
  obtain rfl : P = Tryd.prog := hC
  refine enter_in (N := 32) [(0, .pointer (some ⟨bq, 0, none⟩))] ha Tryd.func113 rfl Tryd.ntmps113 rfl rfl ?_
  refine cod_seq ?_
  refine cod_region ?_
  refine lst_alloc rfl F.ti142 ?_
  intro b2
  refine lst_assign rfl rfl ?_
  refine lst_nil ?_
  refine ex_then ?_
  refine cod_seq ?_
  refine cod_seq ?_
  refine cod_region ?_
  refine lst_move rfl rfl ?_
  refine lst_nilCheck rfl rfl ?_
  refine lst_field_z rfl rfl F.fi139_0 F.ti137 ?_
  refine lst_load rfl rfl F.one137 ?_
  refine lst_len rfl rfl Tryd.underlying137 ?_
  refine lst_int rfl rfl rfl bin_eql ?_
  refine lst_nil ?_
  refine ex_then ?_
  refine cod_cond_dec rfl (fun hc0 => ?_) (fun hc0 => ?_)
  · skip
    exact absurd hc0 (by omega) -- done
  · skip
    refine cod_skip ?_
    refine ex_then ?_
    refine cod_seq ?_
    refine cod_region ?_
    refine lst_move rfl rfl ?_
    refine lst_nilCheck rfl rfl ?_
    refine lst_field_z rfl rfl F.fi139_0 F.ti137 ?_
    refine lst_load rfl rfl F.one137 ?_
    refine lst_index (j := 0) rfl rfl rfl Tryd.underlying137 F.ti142 rfl (by omega) ?_
    refine lst_loadN_at (l := [.slice k.A k.how.length k.c, .int .u8 (k.team.1 : Int), .int .u8 (k.team.2.1 : Int), .int .u8 (k.team.2.2 : Int)]) rfl rfl F.agg142 F.ti142 rfl (fun a w ha j u hu => que_at ha (k := 0) (l := k :: todo) (cells := Wk.cells) (InQ.mem (A := some ⟨g, o, none⟩)) Wk.cells_len rfl hu) ?_
    refine lst_alloc rfl F.ti142 ?_
    intro b5
    refine lst_store rfl rfl F.ti142 rfl ?_
    refine lst_nil ?_
    refine ex_then ?_
    refine cod_seq ?_
    refine cod_region ?_
    refine lst_move rfl rfl ?_
    refine lst_move rfl rfl ?_
    refine lst_nilCheck rfl rfl ?_
    refine lst_field_z rfl rfl F.fi139_0 F.ti137 ?_
    refine lst_load rfl rfl F.one137 ?_
    refine lst_slice1 rfl rfl rfl Tryd.underlying137 F.ti142 ?_
    intro A1
    refine lst_nilCheck rfl rfl ?_
    refine lst_field_z rfl rfl F.fi139_0 F.ti137 ?_
    refine lst_store rfl rfl F.ti137 rfl ?_
    refine lst_nil ?_
    refine ex_then ?_
    refine cod_seq ?_
    refine cod_region ?_
    refine lst_loadN rfl rfl F.agg142 F.ti142 ?_
    refine lst_store rfl rfl F.ti142 rfl ?_
    refine lst_assign rfl rfl ?_
    refine lst_nil ?_
    refine ex_then ?_
    refine cod_ret ?_
    exact ex_ret rfl (fun a w ha => by exact res_cellN_tmp (ha := ha) rfl rfl rfl F.agg142 F.ti142 rfl) (fun _ _ ha' => ⟨A1, c - 1, rfl, ha.back (ha'.pck (by repeat (first | exact Pck.nil _ | exact Pck.refl _ | (apply Pck.cons; focus (repeat (first | exact Rem.here _ | apply Rem.there))) | refine Pck.skip _ ?_)))⟩)

end Go.Proofs.YtofkhehcnfiopaaDoor.N
namespace Go.Proofs.YtofkhehcnfiopaaDoor.N
set_option linter.unusedSectionVars false
/-- The code of a word over n letters: the shorter words first, those of one length in lexicographic order. -/
def code (n : Nat) (w : List Nat) : Nat := w.foldl (fun c i => c * n + i + 1) 0
theorem code_nil (n : Nat) : code n [] = 0 := rfl
theorem code_snoc (n : Nat) (w : List Nat) (i : Nat) : code n (w ++ [i]) = code n w * n + i + 1 := by
  simp [code, List.foldl_append]
/-- All letters are below n. -/
def Wd (n : Nat) (w : List Nat) : Prop := ∀ i ∈ w, i < n
theorem Wd.snoc {n : Nat} {w : List Nat} {i : Nat} : Wd n (w ++ [i]) ↔ Wd n w ∧ i < n := by
  unfold Wd
  constructor
  · intro h
    exact ⟨fun j hj => h j (by simp [hj]), h i (by simp)⟩
  · rintro ⟨h, hi⟩ j hj
    rcases List.mem_append.1 hj with hj | hj
    · exact h j hj
    · simp at hj; omega
theorem snoc_cases (w : List Nat) : w = [] ∨ ∃ u i, w = u ++ [i] := by
  rcases List.eq_nil_or_concat w with h | ⟨u, i, h⟩
  · exact .inl h
  · exact .inr ⟨u, i, by simpa using h⟩
theorem code_snoc_lt {n a b i j : Nat} (h : a < b) (hj : j < n) : a * n + j + 1 < b * n + i + 1 := by
  have h1 : (a + 1) * n ≤ b * n := Nat.mul_le_mul_right n h
  rw [Nat.succ_mul] at h1
  omega
theorem code_lt_of_len (n : Nat) : ∀ (k : Nat) (u w : List Nat), u.length = k → w.length < k → Wd n w → code n w < code n u := by
  intro k
  induction k with
  | zero => intro u w _ h; omega
  | succ k ih =>
    intro u w hu hw hwd
    rcases snoc_cases u with rfl | ⟨u', i, rfl⟩
    · simp at hu
    rcases snoc_cases w with rfl | ⟨w', j, rfl⟩
    · rw [code_nil, code_snoc]; omega
    · rw [code_snoc, code_snoc]
      rw [Wd.snoc] at hwd
      simp at hu hw
      exact code_snoc_lt (ih u' w' hu (by omega) hwd.1) hwd.2
theorem len_le_of_code {n : Nat} {u w : List Nat} (hu : Wd n u) (h : code n w ≤ code n u) : w.length ≤ u.length := by
  rcases Nat.lt_or_ge u.length w.length with hl | hl
  · have := code_lt_of_len n _ w u rfl hl hu
    omega
  · exact hl
theorem digit_inj {n a b i j : Nat} (hi : i < n) (hj : j < n) (h : a * n + i + 1 = b * n + j + 1) : a = b ∧ i = j := by
  rcases Nat.lt_trichotomy a b with hab | hab | hab
  · have := code_snoc_lt (n := n) (i := j) hab hi; omega
  · subst hab; exact ⟨rfl, by omega⟩
  · have := code_snoc_lt (n := n) (i := i) hab hj; omega
theorem code_inj (n : Nat) : ∀ (k : Nat) (u w : List Nat), u.length = k → Wd n u → Wd n w → code n u = code n w → u = w := by
  intro k
  induction k with
  | zero =>
    intro u w hu hwu hww h
    have hu' : u = [] := List.length_eq_zero_iff.1 hu
    subst hu'
    rcases snoc_cases w with rfl | ⟨w', j, rfl⟩
    · rfl
    · rw [code_nil, code_snoc] at h; omega
  | succ k ih =>
    intro u w hu hwu hww h
    rcases snoc_cases u with rfl | ⟨u', i, rfl⟩
    · simp at hu
    rcases snoc_cases w with rfl | ⟨w', j, rfl⟩
    · rw [code_nil, code_snoc] at h; omega
    · rw [code_snoc, code_snoc] at h
      rw [Wd.snoc] at hwu hww
      simp at hu
      obtain ⟨h1, h2⟩ := digit_inj hwu.2 hww.2 h
      rw [ih u' w' hu hwu.1 hww.1 h1, h2]
theorem code_mono_snoc {n : Nat} {u w : List Nat} {i : Nat} (h : code n w ≤ code n u) : code n (w ++ [i]) ≤ code n (u ++ [i]) := by
  rw [code_snoc, code_snoc]
  have := Nat.mul_le_mul_right n h
  omega

section
variable {S : Type} (step : S → Nat → Option S)
/-- Where a word leads from a state. -/
def run : S → List Nat → Option S
  | s, [] => some s
  | s, i :: w => (step s i).bind fun t => run t w
theorem run_append (s : S) (u v : List Nat) : run step s (u ++ v) = (run step s u).bind fun t => run step t v := by
  induction u generalizing s with
  | nil => rfl
  | cons i u ih =>
    show (step s i).bind _ = ((step s i).bind _).bind _
    cases step s i with
    | none => rfl
    | some t => exact ih t
theorem run_snoc (s : S) (u : List Nat) (i : Nat) : run step s (u ++ [i]) = (run step s u).bind fun t => step t i := by
  rw [run_append]
  cases run step s u with
  | none => rfl
  | some t =>
    show (step t i).bind _ = step t i
    cases step t i <;> rfl
theorem run_wd {n : Nat} (hn : ∀ s i, n ≤ i → step s i = none) : ∀ (w : List Nat) (s t : S), run step s w = some t → Wd n w := by
  intro w
  induction w with
  | nil => intro s t _ i hi; simp at hi
  | cons i w ih =>
    intro s t h j hj
    have h' : ((step s i).bind fun t => run step t w) = some t := h
    cases hs : step s i with
    | none => rw [hs] at h'; cases h'
    | some s' =>
      rw [hs] at h'
      rcases List.mem_cons.1 hj with rfl | hj
      · rcases Nat.lt_or_ge j n with h2 | h2
        · exact h2
        · rw [hn s j h2] at hs; cases hs
      · exact ih s' t h' j hj

/-- Words that are not too long. -/
def Fits (most : Int) (w : List Nat) : Prop := most < 0 ∨ (w.length : Int) ≤ most
theorem Fits.init {most : Int} {u : List Nat} {i : Nat} (h : Fits most (u ++ [i])) : Fits most u ∧ (u.length : Int) ≠ most := by
  unfold Fits at *
  simp at h
  omega

/-- The first word, the shorter ones first, that leads to a goal. -/
def IsFirst (n : Nat) (most : Int) (s₀ : S) (goal : S → Bool) (w : List Nat) : Prop :=
  (∃ s, run step s₀ w = some s ∧ goal s = true) ∧ Fits most w ∧ ∀ v t, run step s₀ v = some t → goal t = true → Fits most v → code n w ≤ code n v
def NoWord (most : Int) (s₀ : S) (goal : S → Bool) : Prop := ∀ v t, run step s₀ v = some t → Fits most v → goal t = false

theorem IsFirst.unique {n : Nat} {most : Int} {s₀ : S} {goal : S → Bool} {w v : List Nat} (hn : ∀ s i, n ≤ i → step s i = none)
    (hw : IsFirst step n most s₀ goal w) (hv : IsFirst step n most s₀ goal v) : w = v := by
  obtain ⟨⟨s, hs, hg⟩, hf, hm⟩ := hw
  obtain ⟨⟨t, ht, hg'⟩, hf', hm'⟩ := hv
  have h1 := hm v t ht hg' hf'
  have h2 := hm' w s hs hg hf
  exact code_inj n _ w v rfl (run_wd step hn w _ _ hs) (run_wd step hn v _ _ ht) (by omega)
theorem IsFirst.not_none {n : Nat} {most : Int} {s₀ : S} {goal : S → Bool} {w : List Nat} (hw : IsFirst step n most s₀ goal w) (hv : NoWord step most s₀ goal) : False := by
  obtain ⟨⟨s, hs, hg⟩, hf, _⟩ := hw
  rw [hv w s hs hf] at hg
  cases hg

/-- What is met: words and states; those before k are done; of the one at k the letters below i are done. -/
structure BIn (n : Nat) (most : Int) (s₀ : S) (goal : S → Bool) (full : List (List Nat × S)) (k i : Nat) : Prop where
  sorted : ∀ (a b : Nat) (e f : List Nat × S), a < b → full[a]? = some e → full[b]? = some f → code n e.1 < code n f.1
  leads : ∀ e : List Nat × S, e ∈ full → run step s₀ e.1 = some e.2
  fits : ∀ e : List Nat × S, e ∈ full → Fits most e.1
  first : full[0]? = some ([], s₀)
  closed : ∀ (j : Nat) (e : List Nat × S), j < k → full[j]? = some e → goal e.2 = false ∧ ((e.1.length : Int) ≠ most → ∀ l t, step e.2 l = some t → ∃ f, f ∈ full ∧ f.2 = t ∧ code n f.1 ≤ code n (e.1 ++ [l]))
  now : ∀ e : List Nat × S, full[k]? = some e → ∀ l t, l < i → step e.2 l = some t → ∃ f, f ∈ full ∧ f.2 = t ∧ code n f.1 ≤ code n (e.1 ++ [l])
  parents : ∀ f : List Nat × S, f ∈ full → f.1 = [] ∨ ∃ j l e, full[j]? = some e ∧ (j < k ∨ j = k ∧ l < i) ∧ l < n ∧ f.1 = e.1 ++ [l]
  nodup : (full.map (·.2)).Nodup

variable {step}
variable {n : Nat} {most : Int} {s₀ : S} {goal : S → Bool} {full : List (List Nat × S)} {k i : Nat}

theorem BIn.start : BIn step n most s₀ goal [([], s₀)] 0 0 := by
  constructor
  · intro a b e f hab h1 h2
    have : b = 0 := by
      rcases Nat.eq_zero_or_pos b with h | h
      · exact h
      · rw [List.getElem?_eq_none (by simp; omega)] at h2; cases h2
    omega
  · intro e he; simp at he; subst he; rfl
  · intro e he; simp at he; subst he; unfold Fits; simp; omega
  · rfl
  · intro j e hj; omega
  · intro e _ l t hl; omega
  · intro f hf; simp at hf; subst hf; exact .inl rfl
  · simp

/-- Whoever is met has a smaller code than the next word. -/
theorem BIn.below (h : BIn step n most s₀ goal full k i) {w : List Nat} {s : S} (hk : full[k]? = some (w, s)) {f : List Nat × S} (hf : f ∈ full) :
    code n f.1 < code n (w ++ [i]) := by
  rcases h.parents f hf with h0 | ⟨j, l, e, he, hj, hl, hfe⟩
  · rw [h0, code_nil, code_snoc]; omega
  · rw [hfe, code_snoc, code_snoc]
    rcases hj with hj | ⟨rfl, hli⟩
    · exact code_snoc_lt (h.sorted _ _ _ _ hj he hk) hl
    · rw [hk] at he
      cases he
      show code n w * n + l + 1 < code n w * n + i + 1
      omega

theorem BIn.skip_none (h : BIn step n most s₀ goal full k i) {w : List Nat} {s : S} (hk : full[k]? = some (w, s)) (hs : step s i = none) :
    BIn step n most s₀ goal full k (i + 1) := by
  refine ⟨h.sorted, h.leads, h.fits, h.first, h.closed, ?_, ?_, h.nodup⟩
  · intro e he l t hl hst
    rcases Nat.lt_or_ge l i with h1 | h1
    · exact h.now e he l t h1 hst
    · have : l = i := by omega
      subst this
      rw [hk] at he; cases he
      rw [hs] at hst; cases hst
  · intro f hf
    rcases h.parents f hf with h0 | ⟨j, l, e, he, hj, hl, hfe⟩
    · exact .inl h0
    · exact .inr ⟨j, l, e, he, by omega, hl, hfe⟩

theorem BIn.skip_met (h : BIn step n most s₀ goal full k i) {w : List Nat} {s t : S} (hk : full[k]? = some (w, s)) (hs : step s i = some t) (hm : t ∈ full.map (·.2)) :
    BIn step n most s₀ goal full k (i + 1) := by
  refine ⟨h.sorted, h.leads, h.fits, h.first, h.closed, ?_, ?_, h.nodup⟩
  · intro e he l t' hl hst
    rcases Nat.lt_or_ge l i with h1 | h1
    · exact h.now e he l t' h1 hst
    · have : l = i := by omega
      subst this
      rw [hk] at he; cases he
      rw [hs] at hst; cases hst
      obtain ⟨f, hf, hft⟩ := List.mem_map.1 hm
      exact ⟨f, hf, hft, Nat.le_of_lt (h.below hk hf)⟩
  · intro f hf
    rcases h.parents f hf with h0 | ⟨j, l, e, he, hj, hl, hfe⟩
    · exact .inl h0
    · exact .inr ⟨j, l, e, he, by omega, hl, hfe⟩

theorem getElem?_snoc_old {α : Type} {l : List α} {a : α} {j : Nat} {x : α} (h : l[j]? = some x) : (l ++ [a])[j]? = some x := by
  have hj : j < l.length := by
    rcases Nat.lt_or_ge j l.length with h1 | h1
    · exact h1
    · rw [List.getElem?_eq_none h1] at h; cases h
  rw [List.getElem?_append_left hj]; exact h
theorem getElem?_snoc_cases {α : Type} {l : List α} {a : α} {j : Nat} {x : α} (h : (l ++ [a])[j]? = some x) : l[j]? = some x ∧ j < l.length ∨ j = l.length ∧ x = a := by
  rcases Nat.lt_or_ge j l.length with h1 | h1
  · rw [List.getElem?_append_left h1] at h
    exact .inl ⟨h, h1⟩
  · rw [List.getElem?_append_right h1] at h
    rcases Nat.eq_zero_or_pos (j - l.length) with h2 | h2
    · rw [h2] at h; simp at h; exact .inr ⟨by omega, h.symm⟩
    · rw [List.getElem?_eq_none (by simp; omega)] at h; cases h

theorem BIn.push (h : BIn step n most s₀ goal full k i) {w : List Nat} {s t : S} (hk : full[k]? = some (w, s)) (hi : i < n) (hs : step s i = some t) (hm : t ∉ full.map (·.2))
    (hlen : (w.length : Int) ≠ most) : BIn step n most s₀ goal (full ++ [(w ++ [i], t)]) k (i + 1) := by
  have hkl : k < full.length := by
    rcases Nat.lt_or_ge k full.length with h1 | h1
    · exact h1
    · rw [List.getElem?_eq_none h1] at hk; cases hk
  have hmem : (w, s) ∈ full := List.mem_of_getElem? hk
  refine ⟨?_, ?_, ?_, getElem?_snoc_old h.first, ?_, ?_, ?_, ?_⟩
  · intro a b e f hab h1 h2
    rcases getElem?_snoc_cases h2 with ⟨h2, hb⟩ | ⟨hb, rfl⟩
    · rcases getElem?_snoc_cases h1 with ⟨h1, _⟩ | ⟨ha, _⟩
      · exact h.sorted a b e f hab h1 h2
      · omega
    · rcases getElem?_snoc_cases h1 with ⟨h1, _⟩ | ⟨ha, _⟩
      · exact h.below hk (List.mem_of_getElem? h1)
      · omega
  · intro e he
    rcases List.mem_append.1 he with he | he
    · exact h.leads e he
    · simp at he; subst he
      show run step s₀ (w ++ [i]) = some t
      rw [run_snoc, h.leads _ hmem]
      exact hs
  · intro e he
    rcases List.mem_append.1 he with he | he
    · exact h.fits e he
    · simp at he; subst he
      have := h.fits _ hmem
      unfold Fits at *
      simp
      simp at this
      omega
  · intro j e hj he
    rcases getElem?_snoc_cases he with ⟨he, _⟩ | ⟨hb, _⟩
    · obtain ⟨h1, h2⟩ := h.closed j e hj he
      refine ⟨h1, fun h3 l t' hst => ?_⟩
      obtain ⟨f, hf, h4, h5⟩ := h2 h3 l t' hst
      exact ⟨f, List.mem_append.2 (.inl hf), h4, h5⟩
    · omega
  · intro e he l t' hl hst
    rcases getElem?_snoc_cases he with ⟨he', _⟩ | ⟨hb, _⟩
    · clear he
      rcases Nat.lt_or_ge l i with h1 | h1
      · obtain ⟨f, hf, h4, h5⟩ := h.now e he' l t' h1 hst
        exact ⟨f, List.mem_append.2 (.inl hf), h4, h5⟩
      · have : l = i := by omega
        subst this
        rw [hk] at he'; cases he'
        rw [hs] at hst; cases hst
        exact ⟨(w ++ [l], t), by simp, rfl, Nat.le_refl _⟩
    · omega
  · intro f hf
    rcases List.mem_append.1 hf with hf | hf
    · rcases h.parents f hf with h0 | ⟨j, l, e, he, hj, hl, hfe⟩
      · exact .inl h0
      · exact .inr ⟨j, l, e, getElem?_snoc_old he, by omega, hl, hfe⟩
    · simp at hf; subst hf
      exact .inr ⟨k, i, (w, s), getElem?_snoc_old hk, by omega, hi, rfl⟩
  · rw [List.map_append, List.nodup_append]
    refine ⟨h.nodup, by simp, ?_⟩
    intro a ha b hb
    simp at hb
    subst hb
    intro hab
    subst hab
    exact hm ha

theorem BIn.next (h : BIn step n most s₀ goal full k n) (hn : ∀ s i, n ≤ i → step s i = none) {w : List Nat} {s : S} (hk : full[k]? = some (w, s)) (hg : goal s = false) :
    BIn step n most s₀ goal full (k + 1) 0 := by
  refine ⟨h.sorted, h.leads, h.fits, h.first, ?_, fun e _ l t hl => by omega, ?_, h.nodup⟩
  · intro j e hj he
    rcases Nat.lt_or_ge j k with h1 | h1
    · exact h.closed j e h1 he
    · have : j = k := by omega
      subst this
      rw [hk] at he; cases he
      refine ⟨hg, fun _ l t hst => ?_⟩
      rcases Nat.lt_or_ge l n with h2 | h2
      · exact h.now _ hk l t h2 hst
      · have hst' : step s l = some t := hst
        rw [hn s l h2] at hst'; cases hst'
  · intro f hf
    rcases h.parents f hf with h0 | ⟨j, l, e, he, hj, hl, hfe⟩
    · exact .inl h0
    · exact .inr ⟨j, l, e, he, by omega, hl, hfe⟩

theorem BIn.next_long (h : BIn step n most s₀ goal full k 0) {w : List Nat} {s : S} (hk : full[k]? = some (w, s)) (hg : goal s = false) (hl : (w.length : Int) = most) :
    BIn step n most s₀ goal full (k + 1) 0 := by
  refine ⟨h.sorted, h.leads, h.fits, h.first, ?_, fun e _ l t hl => by omega, ?_, h.nodup⟩
  · intro j e hj he
    rcases Nat.lt_or_ge j k with h1 | h1
    · exact h.closed j e h1 he
    · have : j = k := by omega
      subst this
      rw [hk] at he; cases he
      exact ⟨hg, fun h2 => absurd hl h2⟩
  · intro f hf
    rcases h.parents f hf with h0 | ⟨j, l, e, he, hj, hl, hfe⟩
    · exact .inl h0
    · exact .inr ⟨j, l, e, he, by omega, hl, hfe⟩

/-- Each word is met by one that is no later, or has not been looked at yet. -/
theorem BIn.reached (h : BIn step n most s₀ goal full k 0) (hn : ∀ s i, n ≤ i → step s i = none) :
    ∀ (m : Nat) (v : List Nat) (t : S), v.length = m → run step s₀ v = some t → Fits most v →
      (∃ f, f ∈ full ∧ f.2 = t ∧ code n f.1 ≤ code n v) ∨ (∃ j f, k ≤ j ∧ full[j]? = some f ∧ code n f.1 ≤ code n v) := by
  intro m
  induction m with
  | zero =>
    intro v t hv hr _
    have : v = [] := List.length_eq_zero_iff.1 hv
    subst this
    have h0 : t = s₀ := by
      have : some s₀ = some t := hr
      cases this; rfl
    exact .inl ⟨([], s₀), List.mem_of_getElem? h.first, h0.symm, Nat.le_refl _⟩
  | succ m ih =>
    intro v t hv hr hfit
    rcases snoc_cases v with rfl | ⟨u, i, rfl⟩
    · simp at hv
    have hwd := run_wd step hn _ _ _ hr
    rw [Wd.snoc] at hwd
    obtain ⟨hfu, hlu⟩ := hfit.init
    simp at hv
    rw [run_snoc] at hr
    cases hu : run step s₀ u with
    | none => rw [hu] at hr; cases hr
    | some t' =>
      rw [hu] at hr
      have hr' : step t' i = some t := hr
      have hle : code n u ≤ code n (u ++ [i]) := Nat.le_of_lt (code_lt_of_len n _ (u ++ [i]) u rfl (by simp) hwd.1)
      rcases ih u t' hv hu hfu with ⟨f, hf, hft, hc⟩ | ⟨j, f, hj, hf, hc⟩
      · obtain ⟨j, hjl⟩ := List.mem_iff_getElem?.1 hf
        rcases Nat.lt_or_ge j k with hjk | hjk
        · obtain ⟨_, h2⟩ := h.closed j f hjk hjl
          have hlen := len_le_of_code hwd.1 hc
          have hne : (f.1.length : Int) ≠ most := by
            unfold Fits at hfit
            simp at hfit
            omega
          obtain ⟨g, hg, hgt, hgc⟩ := h2 hne i t (by rw [hft]; exact hr')
          exact .inl ⟨g, hg, hgt, Nat.le_trans hgc (code_mono_snoc hc)⟩
        · exact .inr ⟨j, f, hjk, hjl, Nat.le_trans hc hle⟩
      · exact .inr ⟨j, f, hj, hf, Nat.le_trans hc hle⟩

theorem BIn.found (h : BIn step n most s₀ goal full k 0) (hn : ∀ s i, n ≤ i → step s i = none) {w : List Nat} {s : S} (hk : full[k]? = some (w, s)) (hg : goal s = true) :
    IsFirst step n most s₀ goal w := by
  have hmem : (w, s) ∈ full := List.mem_of_getElem? hk
  have hrun := h.leads _ hmem
  have later : ∀ j f, k ≤ j → full[j]? = some f → code n w ≤ code n f.1 := by
    intro j f hj hf
    rcases Nat.lt_or_ge k j with h1 | h1
    · exact Nat.le_of_lt (h.sorted _ _ _ _ h1 hk hf)
    · have : j = k := by omega
      subst this
      rw [hk] at hf; cases hf
      exact Nat.le_refl _
  refine ⟨⟨s, hrun, hg⟩, h.fits _ hmem, ?_⟩
  intro v t hv hgt hfv
  rcases h.reached hn _ v t rfl hv hfv with ⟨f, hf, hft, hc⟩ | ⟨j, f, hj, hf, hc⟩
  · obtain ⟨j, hjl⟩ := List.mem_iff_getElem?.1 hf
    rcases Nat.lt_or_ge j k with hjk | hjk
    · have := (h.closed j f hjk hjl).1
      rw [hft, hgt] at this; cases this
    · exact Nat.le_trans (later j f hjk hjl) hc
  · exact Nat.le_trans (later j f hj hf) hc

theorem BIn.none_ (h : BIn step n most s₀ goal full k 0) (hn : ∀ s i, n ≤ i → step s i = none) (hk : full.length ≤ k) : NoWord step most s₀ goal := by
  intro v t hv hfv
  rcases h.reached hn _ v t rfl hv hfv with ⟨f, hf, hft, hc⟩ | ⟨j, f, hj, hf, hc⟩
  · obtain ⟨j, hjl⟩ := List.mem_iff_getElem?.1 hf
    have hjlen : j < full.length := by
      rcases Nat.lt_or_ge j full.length with h1 | h1
      · exact h1
      · rw [List.getElem?_eq_none h1] at hjl; cases hjl
    rw [← hft]
    exact (h.closed j f (by omega) hjl).1
  · rw [List.getElem?_eq_none (by omega)] at hf; cases hf
end

/-- Numbers below N, none twice: there are no more than N. -/
theorem nodup_le (N : Nat) : ∀ (l : List Nat), l.Nodup → (∀ x ∈ l, x < N) → l.length ≤ N := by
  induction N with
  | zero =>
    intro l _ h
    cases l with
    | nil => simp
    | cons a l => have := h a (by simp); omega
  | succ N ih =>
    intro l hd h
    have h1 := ih (l.filter (· ≠ N)) (hd.filter _) (fun x hx => by
      rw [List.mem_filter] at hx
      have := h x hx.1
      have h3 : x ≠ N := by simpa using hx.2
      omega)
    have h2 : l.length ≤ (l.filter (· ≠ N)).length + 1 := by
      clear ih h1 h
      induction l with
      | nil => simp
      | cons a l ih =>
        rw [List.nodup_cons] at hd
        by_cases ha : a = N
        · subst ha
          have : l.filter (· ≠ a) = l := by
            rw [List.filter_eq_self]
            intro x hx
            simp only [ne_eq, decide_not, Bool.not_eq_true', decide_eq_false_iff_not]
            rintro rfl
            exact hd.1 hx
          rw [List.filter_cons_of_neg (by simp)]
          rw [this]
          simp
        · rw [List.filter_cons_of_pos (by simpa using ha)]
          have := ih hd.2
          simp only [List.length_cons]
          omega
    omega
end Go.Proofs.YtofkhehcnfiopaaDoor.N
