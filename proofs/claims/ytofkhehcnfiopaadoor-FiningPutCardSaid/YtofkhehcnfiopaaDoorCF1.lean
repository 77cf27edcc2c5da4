/- Parts of the walks of the laws on fining: F1, Team, Sx4, F2, F3, Bfs, Step, F4. -/
import Derived.Test.YtofkhehcnfiopaaDoorCSx
import Derived.Test.YtofkhehcnfiopaaDoorProg
import Derived.DeepKeys3
namespace Go.Proofs.YtofkhehcnfiopaaDoor.N
open Go Go.RowKit Go.Proofs
theorem F.agg24 : aggB Tryd.prog 24 = true := by unfold aggB; rw [Tryd.underlying24]
theorem F.agg89 : aggB Tryd.prog 89 = true := by unfold aggB; rw [Tryd.underlying89]
theorem F.ent110 : Enters Tryd.prog 110 := enters_of Tryd.func110 rfl (by kernel_rfl)
theorem F.ent85 : Enters Tryd.prog 85 := enters_of Tryd.func85 rfl (by kernel_rfl)
theorem F.ent98 : Enters Tryd.prog 98 := enters_of Tryd.func98 rfl (by kernel_rfl)
theorem F.ent99 : Enters Tryd.prog 99 := enters_of Tryd.func99 rfl (by kernel_rfl)
theorem F.fi24_0 : FI Tryd.prog 24 0 3 0 := ⟨_, _, Tryd.underlying24, rfl, rfl, rfl⟩
theorem F.fi24_1 : FI Tryd.prog 24 1 3 1 := ⟨_, _, Tryd.underlying24, rfl, rfl, rfl⟩
theorem F.fi24_2 : FI Tryd.prog 24 2 3 2 := ⟨_, _, Tryd.underlying24, rfl, rfl, rfl⟩
theorem F.fi24_3 : FI Tryd.prog 24 3 3 3 := ⟨_, _, Tryd.underlying24, rfl, rfl, rfl⟩
theorem F.fi24_4 : FI Tryd.prog 24 4 3 4 := ⟨_, _, Tryd.underlying24, rfl, rfl, rfl⟩
theorem F.fi75_0 : FI Tryd.prog 75 0 72 0 := ⟨_, _, Tryd.underlying75, rfl, rfl, rfl⟩
theorem F.fi75_1 : FI Tryd.prog 75 1 73 1 := ⟨_, _, Tryd.underlying75, rfl, rfl, rfl⟩
theorem F.fi89_0 : FI Tryd.prog 89 0 24 0 := ⟨_, _, Tryd.underlying89, rfl, rfl, rfl⟩
theorem F.one3 : One Tryd.prog 3 := ⟨by unfold aggB; rw [Tryd.underlying3], by rw [Tryd.underlying3]; simp⟩
theorem F.one72 : One Tryd.prog 72 := ⟨by unfold aggB; rw [Tryd.underlying72], by rw [Tryd.underlying72]; simp⟩
theorem F.one73 : One Tryd.prog 73 := ⟨by unfold aggB; rw [Tryd.underlying73], by rw [Tryd.underlying73]; simp⟩
theorem F.ti24 : TI Tryd.prog 24 (.agg [.int .i64 0, .int .i64 0, .int .i64 0, .int .i64 0, .int .i64 0].toArray) 5 40 := TI.of (by kernel_rfl)
theorem F.ti3 : TI Tryd.prog 3 (.int .i64 0) 1 8 := TI.of (by kernel_rfl)
theorem F.ti72 : TI Tryd.prog 72 (.slice none 0 0) 1 24 := TI.of (by kernel_rfl)
theorem F.ti73 : TI Tryd.prog 73 (.int .u8 0) 1 1 := TI.of (by kernel_rfl)
theorem F.ti89 : TI Tryd.prog 89 (.agg [.int .i64 0, .int .i64 0, .int .i64 0, .int .i64 0, .int .i64 0].toArray) 5 40 := TI.of (by kernel_rfl)
theorem clear_c (f p : Nat) (hf : f < 256) (hp : p < 256) (w : World) : Calls Tryd.prog 81 #[.int .u8 (f : Int), .int .u8 (p : Int)] w fun e w' => e = .returned (.bool (decide (nn f p = 0))) ∧ Grew w w' [] := by
  refine enter (N := 9) [(0, .int .u8 (f : Int)), (1, .int .u8 (p : Int))] Tryd.func81 rfl Tryd.ntmps81 rfl rfl ?_
  refine cod_seq ?_
  refine cod_region ?_
  refine lst_assign rfl rfl ?_
  refine lst_nil ?_
  refine ex_then ?_
  refine cod_seq ?_
  refine cod_region ?_
  refine lst_move rfl rfl ?_
  refine lst_move rfl rfl ?_
  refine lst_int rfl rfl rfl (fun w => bin_andNot w (u8_andNot _ _ hf hp)) ?_
  refine lst_int rfl rfl rfl bin_eql ?_
  refine lst_assign rfl rfl ?_
  refine lst_nil ?_
  refine ex_then ?_
  refine cod_ret ?_
  refine ex_ret rfl (fun a w ha => res_one rfl rfl ha) (fun a w ha => ?_)
  exact ⟨by rw [dec_zero], ha.grown (List.nil_sublist _)⟩

theorem set_has_c (s i : Nat) (hs : s < 256) (w : World) : Calls Tryd.prog 110 #[.int .u8 (s : Int), .int .i64 (i : Int)] w fun e w' => e = .returned (.bool (s.testBit i)) ∧ Grew w w' [] := by
  have hs1 : s >>> (min i 8) < 256 := Nat.lt_of_le_of_lt (by rw [Nat.shiftRight_eq_div_pow]; exact Nat.div_le_self _ _) hs
  refine enter (N := 10) [(0, .int .u8 (s : Int)), (1, .int .i64 (i : Int))] Tryd.func110 rfl Tryd.ntmps110 rfl rfl ?_
  refine cod_seq ?_
  refine cod_region ?_
  refine lst_assign rfl rfl ?_
  refine lst_nil ?_
  refine ex_then ?_
  refine cod_seq ?_
  refine cod_region ?_
  refine lst_move rfl rfl ?_
  refine lst_move rfl rfl ?_
  refine lst_shr rfl rfl rfl (by omega) (fdiv_shr _ _ _) ?_
  refine lst_int rfl rfl rfl (fun w => bin_and w (u8_and _ 1 hs1 (by omega))) ?_
  refine lst_int rfl rfl rfl bin_eql ?_
  refine lst_assign rfl rfl ?_
  refine lst_nil ?_
  refine ex_then ?_
  refine cod_ret ?_
  refine ex_ret rfl (fun a w ha => res_one rfl rfl ha) (fun a w ha => ?_)
  exact ⟨by rw [← bit_test s i 8 hs]; rfl, ha.grown (List.nil_sublist _)⟩

theorem may_c (a : Ag) (f : Nat) (ha : a.ok) (hf : f < 256) (w : World) : Calls Tryd.prog 85 #[.agg [.int .i64 (a.needs : Int), .int .i64 (a.no : Int), .int .i64 (a.takes : Int), .int .i64 (a.leaves : Int), .int .i64 (a.cost : Int)].toArray, .int .u8 (f : Int)] w fun e w' => e = .returned (.bool (mayN a f)) ∧ Grew w w' [] := by
  have h1 := ha.needs; have h2 := ha.no; clear ha
  refine enter (N := 21) [(0, .agg [.int .i64 (a.needs : Int), .int .i64 (a.no : Int), .int .i64 (a.takes : Int), .int .i64 (a.leaves : Int), .int .i64 (a.cost : Int)].toArray), (1, .int .u8 (f : Int))] Tryd.func85 rfl Tryd.ntmps85 rfl rfl ?_
  refine cod_seq ?_
  refine cod_region ?_
  refine lst_box rfl rfl ?_
  intro b2
  refine lst_assign rfl rfl ?_
  refine lst_nil ?_
  refine ex_then ?_
  refine cod_seq ?_
  refine cod_region ?_
  refine lst_cut1 16 20 (.bool (mayN a f)) ?_ ?_
  · skip
    refine lst_field_z rfl rfl F.fi89_0 F.ti24 ?_
    refine lst_field_z rfl rfl F.fi24_0 F.ti3 ?_
    refine lst_load rfl rfl F.one3 ?_
    refine lst_convert rfl rfl Tryd.underlying3 Tryd.underlying77 (wrap_u8 _ (by omega)) ?_
    refine lst_move rfl rfl ?_
    refine lst_int rfl rfl rfl (fun w => bin_andNot w (u8_andNot _ _ (by omega) hf)) ?_
    refine lst_int rfl rfl rfl bin_eql ?_
    refine lst_move rfl rfl ?_
    refine lst_split (t := 12) rfl (fun hg12 => ?_) (fun hg12 => ?_)
    · skip
      refine lst_on rfl rfl ?_
      refine lst_field_z rfl rfl F.fi89_0 F.ti24 ?_
      refine lst_on rfl rfl ?_
      refine lst_field_z rfl rfl F.fi24_1 F.ti3 ?_
      refine lst_on rfl rfl ?_
      refine lst_load rfl rfl F.one3 ?_
      refine lst_on rfl rfl ?_
      refine lst_convert rfl rfl Tryd.underlying3 Tryd.underlying77 (wrap_u8 _ (by omega)) ?_
      refine lst_on rfl rfl ?_
      refine lst_move rfl rfl ?_
      refine lst_on rfl rfl ?_
      refine lst_int rfl rfl rfl (fun w => bin_and w (u8_and _ _ (by omega) hf)) ?_
      refine lst_on rfl rfl ?_
      refine lst_int rfl rfl rfl bin_eql ?_
      refine lst_pick_true rfl rfl rfl ?_
      refine lst_nil ?_
      exact ex_cut (.cons (by first | (simp [look, mayN] at *; simp [*]) | (simp [look, mayN] at *; omega)) (by repeat (first | exact Sub.nil _ | refine Sub.cons rfl ?_))) (by repeat (first | exact List.Sublist.refl _ | exact List.nil_sublist _ | refine List.Sublist.cons_cons _ ?_ | refine List.Sublist.cons _ ?_))
    · skip
      refine lst_off rfl rfl rfl ?_
      refine lst_off rfl rfl rfl ?_
      refine lst_off rfl rfl rfl ?_
      refine lst_off rfl rfl rfl ?_
      refine lst_off rfl rfl rfl ?_
      refine lst_off rfl rfl rfl ?_
      refine lst_off rfl rfl rfl ?_
      refine lst_pick_false rfl rfl rfl ?_
      refine lst_nil ?_
      exact ex_cut (.cons (by first | (simp [look, mayN] at *; simp [*]) | (simp [look, mayN] at *; omega)) (by repeat (first | exact Sub.nil _ | refine Sub.cons rfl ?_))) (by repeat (first | exact List.Sublist.refl _ | exact List.nil_sublist _ | refine List.Sublist.cons_cons _ ?_ | refine List.Sublist.cons _ ?_))
  refine lst_assign rfl rfl ?_
  refine lst_nil ?_
  refine ex_then ?_
  refine cod_ret ?_
  refine ex_ret rfl (fun a w ha => res_one rfl rfl ha) (fun a w ha => ?_)
  exact ⟨by rfl, ha.grown (List.nil_sublist _)⟩

theorem put_c (a : Ag) (f : Nat) (ha : a.ok) (hf : f < 256) (w : World) : Calls Tryd.prog 91 #[.agg [.int .i64 (a.needs : Int), .int .i64 (a.no : Int), .int .i64 (a.takes : Int), .int .i64 (a.leaves : Int), .int .i64 (a.cost : Int)].toArray, .int .u8 (f : Int)] w fun e w' => e = .returned (.int .u8 (putN a f : Nat)) ∧ Grew w w' [] := by
  have h1 := ha.takes; have h2 := ha.leaves; clear ha
  refine enter (N := 16) [(0, .agg [.int .i64 (a.needs : Int), .int .i64 (a.no : Int), .int .i64 (a.takes : Int), .int .i64 (a.leaves : Int), .int .i64 (a.cost : Int)].toArray), (1, .int .u8 (f : Int))] Tryd.func91 rfl Tryd.ntmps91 rfl rfl ?_
  refine cod_seq ?_
  refine cod_region ?_
  refine lst_box rfl rfl ?_
  intro b2
  refine lst_assign rfl rfl ?_
  refine lst_nil ?_
  refine ex_then ?_
  refine cod_seq ?_
  refine cod_region ?_
  refine lst_move rfl rfl ?_
  refine lst_field_z rfl rfl F.fi89_0 F.ti24 ?_
  refine lst_field_z rfl rfl F.fi24_2 F.ti3 ?_
  refine lst_load rfl rfl F.one3 ?_
  refine lst_convert rfl rfl Tryd.underlying3 Tryd.underlying77 (wrap_u8 _ (by omega)) ?_
  refine lst_int rfl rfl rfl (fun w => bin_andNot w (u8_andNot _ _ hf (by omega))) ?_
  refine lst_field_z rfl rfl F.fi89_0 F.ti24 ?_
  refine lst_field_z rfl rfl F.fi24_3 F.ti3 ?_
  refine lst_load rfl rfl F.one3 ?_
  refine lst_convert rfl rfl Tryd.underlying3 Tryd.underlying77 (wrap_u8 _ (by omega)) ?_
  refine lst_int rfl rfl rfl (fun w => bin_or w (u8_or _ _ (show _ < 2 ^ 8 from nn_lt hf) (by omega))) ?_
  refine lst_assign rfl rfl ?_
  refine lst_nil ?_
  refine ex_then ?_
  refine cod_ret ?_
  refine ex_ret rfl (fun a w ha => res_one rfl rfl ha) (fun a w ha => ?_)
  exact ⟨by rfl, ha.grown (List.nil_sublist _)⟩

theorem can_c (A : Option Addr) (cp : Nat) (ags : List Ag) (used f : Nat) (hok : Oks ags) (hu : used < 256) (hf : f < 256) (w : World) (hA : RdL Ag.cells 5 w A ags) : Calls Tryd.prog 89 #[.agg [.slice A ags.length cp, .int .u8 (used : Int)].toArray, .int .u8 (f : Int)] w fun e w' => ∃ A c, e = .returned (.slice A (canTo ags used f ags.length).length c) ∧ Grew w w' [.row 3 1 A (canTo ags used f ags.length).length c (ints (canTo ags used f ags.length))] := by
  refine enter (N := 31) [(0, .agg [.slice A ags.length cp, .int .u8 (used : Int)].toArray), (1, .int .u8 (f : Int))] Tryd.func89 rfl Tryd.ntmps89 rfl rfl ?_
  refine cod_seq ?_
  refine cod_region ?_
  refine lst_box rfl rfl ?_
  intro b2
  refine lst_assign rfl rfl ?_
  refine lst_nil ?_
  refine ex_then ?_
  refine cod_seq ?_
  refine cod_region ?_
  refine lst_assign rfl rfl ?_
  refine lst_nil ?_
  refine ex_then ?_
  refine cod_seq ?_
  refine cod_seq ?_
  refine cod_region ?_
  refine lst_field_z rfl rfl F.fi75_0 F.ti72 ?_
  refine lst_load rfl rfl F.one72 ?_
  refine lst_len rfl rfl Tryd.underlying72 ?_
  refine lst_move rfl rfl ?_
  refine lst_nil ?_
  refine ex_then ?_
  refine cod_block ?_
  refine cod_nil 3 1 ?_
  refine cod_loop (G := Nat × Option Addr × Nat) (fun g => g.1 ≤ ags.length) (fun g => ags.length - g.1) (fun g => [(0, .agg [.slice A ags.length cp, .int .u8 (used : Int)].toArray), (1, .int .u8 (f : Int)), (2, .pointer (some ⟨b2, 0, none⟩)), (5, .slice g.2.1 (canTo ags used f g.1).length g.2.2), (9, .slice A ags.length cp), (10, .int .i64 (ags.length : Int)), (11, .int .i64 (g.1 : Int))]) (fun g => [.row 3 1 g.2.1 (canTo ags used f g.1).length g.2.2 (ints (canTo ags used f g.1)), .blk b2 (.cells [.slice A ags.length cp, .int .u8 (used : Int)].toArray 75 (0, 0))]) (0, none, 0) (Nat.zero_le _) (by repeat (first | exact Sub.nil _ | refine Sub.cons rfl ?_)) (by repeat (first | exact List.Sublist.refl _ | exact List.nil_sublist _ | refine List.Sublist.cons_cons _ ?_ | refine List.Sublist.cons _ ?_)) ?_
  rintro ⟨k, A', c'⟩ hk
  dsimp only at hk ⊢
  refine cod_seq ?_
  refine cod_region ?_
  refine lst_int rfl rfl rfl bin_lss ?_
  refine lst_nil ?_
  refine ex_then ?_
  refine cod_seq ?_
  refine cod_cond_dec rfl (fun hc0 => ?_) (fun hc0 => ?_)
  · skip
    have hk' : k < ags.length := by omega
    obtain ⟨b, o, rfl, hb, hcell⟩ := hA (by omega)
    obtain ⟨x, hx⟩ : ∃ x, ags[k]? = some x := ⟨_, List.getElem?_eq_getElem hk'⟩
    have hxo : x.ok := hok.2 x (List.mem_of_getElem? hx)
    have hxd : ags.getD k default = x := by rw [List.getD_eq_getElem?_getD, hx]; rfl
    refine cod_skip ?_
    refine ex_then ?_
    refine cod_seq ?_
    refine cod_block ?_
    refine cod_seq ?_
    refine cod_region ?_
    refine lst_move rfl rfl ?_
    refine lst_index (j := k) rfl rfl rfl Tryd.underlying72 F.ti89 rfl hk' ?_
    refine lst_loadN_at (l := [.int .i64 (x.needs : Int), .int .i64 (x.no : Int), .int .i64 (x.takes : Int), .int .i64 (x.leaves : Int), .int .i64 (x.cost : Int)]) rfl rfl F.agg89 F.ti89 rfl (fun a w ha j u hu => ha.old (hcell k x hx j u hu) hb) ?_
    refine lst_alloc rfl F.ti89 ?_
    intro b7
    refine lst_assign rfl rfl ?_
    refine lst_store rfl rfl F.ti89 rfl ?_
    refine lst_nil ?_
    refine ex_then ?_
    refine cod_seq ?_
    refine cod_region ?_
    refine lst_cut1 9 24 (.bool (used.testBit k && mayN x f)) ?_ ?_
    · skip
      refine lst_field_z rfl rfl F.fi75_1 F.ti73 ?_
      refine lst_load rfl rfl F.one73 ?_
      refine lst_move rfl rfl ?_
      refine lst_fn0 (vs := [_, _]) rfl rfl F.ent110 (fun a w ha => set_has_c _ _ hu w) ?_
      refine lst_move rfl rfl ?_
      refine lst_split_bool (t := 20) rfl (fun hg20 => ?_) (fun hg20 => ?_)
      · skip
        refine lst_on rfl rfl ?_
        refine lst_loadN rfl rfl F.agg89 F.ti89 ?_
        refine lst_on rfl rfl ?_
        refine lst_move rfl rfl ?_
        refine lst_on rfl rfl ?_
        refine lst_fn0 (vs := [_, _]) rfl rfl F.ent85 (fun a w ha => may_c x f hxo hf w) ?_
        refine lst_pick_true rfl rfl rfl ?_
        refine lst_nil ?_
        exact ex_cut (.cons (by simp [look, *]) (by repeat (first | exact Sub.nil _ | refine Sub.cons rfl ?_))) (by repeat (first | exact List.Sublist.refl _ | exact List.nil_sublist _ | refine List.Sublist.cons_cons _ ?_ | refine List.Sublist.cons _ ?_))
      · skip
        refine lst_off rfl rfl rfl ?_
        refine lst_off rfl rfl rfl ?_
        refine lst_off rfl rfl rfl ?_
        refine lst_pick_false rfl rfl rfl ?_
        refine lst_nil ?_
        exact ex_cut (.cons (by simp [look, *]) (by repeat (first | exact Sub.nil _ | refine Sub.cons rfl ?_))) (by repeat (first | exact List.Sublist.refl _ | exact List.nil_sublist _ | refine List.Sublist.cons_cons _ ?_ | refine List.Sublist.cons _ ?_))
    refine lst_nil ?_
    refine ex_then ?_
    refine cod_cond_bool rfl (fun hc1 => ?_) (fun hc1 => ?_)
    · skip
      refine cod_region ?_
      refine lst_move rfl rfl ?_
      refine lst_move rfl rfl ?_
      refine lst_lit (vs := [(0, _)]) rfl rfl Tryd.underlying25 F.ti3 rfl rfl rfl ?_
      intro b27
      refine lst_append rfl rfl rfl Tryd.underlying25 F.ti3 rfl rfl rfl (by have := canTo_len ags used f k; have := hok.1; unfold maxLen; omega) (by have := canTo_len ags used f k; have := hok.1; omega) ?_
      intro A1 c1
      refine lst_assign rfl rfl ?_
      refine lst_nil ?_
      refine ex_block_normal ?_
      refine ex_then ?_
      refine cod_region ?_
      refine lst_int rfl rfl rfl (fun w => bin_add w (wrap_i64' _ (by omega) (by have := hok.1; omega))) ?_
      refine lst_move rfl rfl ?_
      refine lst_nil ?_
      have e := canTo_succ ags used f k
      rw [hxd, hc1, if_pos rfl] at e
      refine ex_round (k + 1, A1, c1) (by (try dsimp only); omega) (by (try dsimp only); omega) (by (try dsimp only); rw [e]; simp only [List.length_append, List.length_singleton]; repeat (first | exact Sub.nil _ | refine Sub.cons rfl ?_)) (by (try dsimp only); rw [e]; simp only [ints_snoc, List.length_append, List.length_singleton]; repeat (first | exact List.Sublist.refl _ | exact List.nil_sublist _ | refine List.Sublist.cons_cons _ ?_ | refine List.Sublist.cons _ ?_))
    · skip
      refine cod_skip ?_
      refine ex_block_normal ?_
      refine ex_then ?_
      refine cod_region ?_
      refine lst_int rfl rfl rfl (fun w => bin_add w (wrap_i64' _ (by omega) (by have := hok.1; omega))) ?_
      refine lst_move rfl rfl ?_
      refine lst_nil ?_
      have e := canTo_succ ags used f k
      rw [hxd, hc1, if_neg (by simp), List.append_nil] at e
      refine ex_round (k + 1, A', c') (by (try dsimp only); omega) (by (try dsimp only); omega) (by (try dsimp only); rw [e]; repeat (first | exact Sub.nil _ | refine Sub.cons rfl ?_)) (by (try dsimp only); rw [e]; repeat (first | exact List.Sublist.refl _ | exact List.nil_sublist _ | refine List.Sublist.cons_cons _ ?_ | refine List.Sublist.cons _ ?_))
  · skip
    refine cod_exit ?_
    refine ex_then_exit ?_
    refine ex_then_exit ?_
    refine ex_block_exit ?_
    refine ex_then ?_
    refine cod_seq ?_
    refine cod_region ?_
    refine lst_move rfl rfl ?_
    refine lst_assign rfl rfl ?_
    refine lst_nil ?_
    refine ex_then ?_
    refine cod_ret ?_
    have hfin : ags.length = k := by omega
    subst hfin
    refine ex_ret rfl (fun a w ha => res_one rfl rfl ha) (fun a w ha => ⟨A', c', rfl, ha.grown (by repeat (first | exact List.Sublist.refl _ | exact List.nil_sublist _ | refine List.Sublist.cons_cons _ ?_ | refine List.Sublist.cons _ ?_))⟩)

theorem outside_c (n lo hi : Int) (w : World) : Calls Tryd.prog 99 #[.int .i64 (n : Int), .int .i64 (lo : Int), .int .i64 (hi : Int)] w fun e w' => e = .returned (.bool (!(inB n lo hi))) ∧ Grew w w' [] := by
  refine enter (N := 15) [(0, .int .i64 (n : Int)), (1, .int .i64 (lo : Int)), (2, .int .i64 (hi : Int))] Tryd.func99 rfl Tryd.ntmps99 rfl rfl ?_
  refine cod_seq ?_
  refine cod_region ?_
  refine lst_assign rfl rfl ?_
  refine lst_nil ?_
  refine ex_then ?_
  refine cod_seq ?_
  refine cod_region ?_
  refine lst_cut1 8 14 (.bool (!(inB n lo hi))) ?_ ?_
  · skip
    refine lst_move rfl rfl ?_
    refine lst_move rfl rfl ?_
    refine lst_int rfl rfl rfl bin_lss ?_
    refine lst_move rfl rfl ?_
    refine lst_split (t := 10) rfl (fun hg10 => ?_) (fun hg10 => ?_)
    · skip
      refine lst_off rfl rfl rfl ?_
      refine lst_off rfl rfl rfl ?_
      refine lst_off rfl rfl rfl ?_
      refine lst_pick_true rfl rfl rfl ?_
      refine lst_nil ?_
      exact ex_cut (.cons (by refine congrArg (fun b => some (Value.bool b)) ?_; rw [Bool.eq_iff_iff]; simp [inB] <;> omega) (by repeat (first | exact Sub.nil _ | refine Sub.cons rfl ?_))) (by repeat (first | exact List.Sublist.refl _ | exact List.nil_sublist _ | refine List.Sublist.cons_cons _ ?_ | refine List.Sublist.cons _ ?_))
    · skip
      refine lst_on rfl rfl ?_
      refine lst_move rfl rfl ?_
      refine lst_on rfl rfl ?_
      refine lst_move rfl rfl ?_
      refine lst_on rfl rfl ?_
      refine lst_int rfl rfl rfl bin_gtr ?_
      refine lst_pick_false rfl rfl rfl ?_
      refine lst_nil ?_
      exact ex_cut (.cons (by refine congrArg (fun b => some (Value.bool b)) ?_; rw [Bool.eq_iff_iff]; simp [inB] <;> omega) (by repeat (first | exact Sub.nil _ | refine Sub.cons rfl ?_))) (by repeat (first | exact List.Sublist.refl _ | exact List.nil_sublist _ | refine List.Sublist.cons_cons _ ?_ | refine List.Sublist.cons _ ?_))
  refine lst_assign rfl rfl ?_
  refine lst_nil ?_
  refine ex_then ?_
  refine cod_ret ?_
  refine ex_ret rfl (fun a w ha => res_one rfl rfl ha) (fun a w ha => ?_)
  exact ⟨by rfl, ha.grown (List.nil_sublist _)⟩

theorem all_c (A : Option Addr) (c : Nat) (l : List Int) (hlen : l.length ≤ 140737488355328) (w : World) (hA : RdL icell 1 w A l) : Calls Tryd.prog 98 #[.slice A l.length c] w fun e w' => e = .returned (.bool (allB l)) ∧ Grew w w' [] := by
  refine enter (N := 14) [(0, .slice A l.length c)] Tryd.func98 rfl Tryd.ntmps98 rfl rfl ?_
  refine cod_seq ?_
  refine cod_region ?_
  refine lst_assign rfl rfl ?_
  refine lst_nil ?_
  refine ex_then ?_
  refine cod_seq ?_
  refine cod_seq ?_
  refine cod_region ?_
  refine lst_move rfl rfl ?_
  refine lst_len rfl rfl Tryd.underlying25 ?_
  refine lst_move rfl rfl ?_
  refine lst_nil ?_
  refine ex_then ?_
  refine cod_block ?_
  refine cod_loop (G := Nat) (fun k => k ≤ l.length ∧ allB (l.take k) = true) (fun k => l.length - k) (fun k => [(5, .slice A l.length c), (6, .int .i64 (l.length : Int)), (7, .int .i64 (k : Int))]) (fun k => []) 0 ⟨Nat.zero_le _, rfl⟩ (by repeat (first | exact Sub.nil _ | refine Sub.cons rfl ?_)) (by repeat (first | exact List.Sublist.refl _ | exact List.nil_sublist _ | refine List.Sublist.cons_cons _ ?_ | refine List.Sublist.cons _ ?_)) ?_
  intro k hk
  (try dsimp only at hk ⊢)
  refine cod_seq ?_
  refine cod_region ?_
  refine lst_int rfl rfl rfl bin_lss ?_
  refine lst_nil ?_
  refine ex_then ?_
  refine cod_seq ?_
  refine cod_cond_dec rfl (fun hc0 => ?_) (fun hc0 => ?_)
  · skip
    have hk' : k < l.length := by omega
    obtain ⟨b, o, rfl, hb, hcell⟩ := hA (by omega)
    obtain ⟨x, hx⟩ : ∃ x, l[k]? = some x := ⟨_, List.getElem?_eq_getElem hk'⟩
    have htake : l.take (k + 1) = l.take k ++ [x] := by rw [List.take_add_one, hx]; rfl
    refine cod_skip ?_
    refine ex_then ?_
    refine cod_seq ?_
    refine cod_block ?_
    refine cod_seq ?_
    refine cod_region ?_
    refine lst_index (j := k) rfl rfl rfl Tryd.underlying25 F.ti3 rfl hk' ?_
    refine lst_load_at (v := .int .i64 x) rfl rfl F.one3 (fun a w ha => ha.old (hcell k x hx 0 _ rfl) hb) ?_
    refine lst_assign rfl rfl ?_
    refine lst_nil ?_
    refine ex_then ?_
    refine cod_seq ?_
    refine cod_region ?_
    refine lst_move rfl rfl ?_
    refine lst_fn0 (vs := [_, _, _]) rfl rfl F.ent99 (fun a w ha => outside_c x 0 63 w) ?_
    refine lst_nil ?_
    refine ex_then ?_
    refine cod_cond_bool rfl (fun hc1 => ?_) (fun hc1 => ?_)
    · skip
      refine cod_seq ?_
      refine cod_region ?_
      refine lst_assign rfl rfl ?_
      refine lst_nil ?_
      refine ex_then ?_
      refine cod_ret ?_
      refine ex_block_ret ?_
      refine ex_then_ret ?_
      refine ex_then_ret ?_
      refine ex_block_ret ?_
      refine ex_then_ret ?_
      have hf : allB l = false := by
        unfold allB
        rw [List.all_eq_false]
        exact ⟨x, List.mem_of_getElem? hx, by simpa using hc1⟩
      refine ex_ret rfl (fun a w ha => res_one rfl rfl ha) (fun a w ha => ⟨by rw [hf], ha.grown (List.nil_sublist _)⟩)
    · skip
      refine cod_skip ?_
      refine ex_block_normal ?_
      refine ex_then ?_
      refine cod_region ?_
      refine lst_int rfl rfl rfl (fun w => bin_add w (wrap_i64' _ (by omega) (by have := hlen; omega))) ?_
      refine lst_move rfl rfl ?_
      refine lst_nil ?_
      refine ex_round (k + 1) ⟨by omega, by rw [htake]; unfold allB at hk ⊢; rw [List.all_append, hk.2]; simpa using hc1⟩ (by (try dsimp only); omega) (by repeat (first | exact Sub.nil _ | refine Sub.cons rfl ?_)) (by repeat (first | exact List.Sublist.refl _ | exact List.nil_sublist _ | refine List.Sublist.cons_cons _ ?_ | refine List.Sublist.cons _ ?_))
  · skip
    refine cod_exit ?_
    refine ex_then_exit ?_
    refine ex_then_exit ?_
    refine ex_block_exit ?_
    refine ex_then ?_
    refine cod_seq ?_
    refine cod_region ?_
    refine lst_assign rfl rfl ?_
    refine lst_nil ?_
    refine ex_then ?_
    refine cod_ret ?_
    have hf : allB l = true := by
      have := hk.2
      rw [List.take_of_length_le (by omega)] at this
      exact this
    refine ex_ret rfl (fun a w ha => res_one rfl rfl ha) (fun a w ha => ⟨by rw [hf], ha.grown (List.nil_sublist _)⟩)

theorem check_c (A : Option Addr) (c : Nat) (l : List RA) (w : World) (hA : RdL RA.cells 5 w A l) : Calls Tryd.prog 46 #[.slice A l.length c] w fun e w' => e = .returned (.int .i64 ((checkR l : Nat) : Int)) ∧ Grew w w' [] := by
  refine enter (N := 38) [(0, .slice A l.length c)] Tryd.func46 rfl Tryd.ntmps46 rfl rfl ?_
  refine cod_seq ?_
  refine cod_region ?_
  refine lst_assign rfl rfl ?_
  refine lst_nil ?_
  refine ex_then ?_
  refine cod_seq ?_
  refine cod_seq ?_
  refine cod_region ?_
  refine lst_move rfl rfl ?_
  refine lst_len rfl rfl Tryd.underlying22 ?_
  refine lst_int rfl rfl rfl bin_gtr ?_
  refine lst_nil ?_
  refine ex_then ?_
  refine cod_cond_dec rfl (fun hc0 => ?_) (fun hc0 => ?_)
  · skip
    refine cod_seq ?_
    refine cod_region ?_
    refine lst_assign rfl rfl ?_
    refine lst_nil ?_
    refine ex_then ?_
    refine cod_ret ?_
    refine ex_then_ret ?_
    refine ex_ret rfl (fun a w ha => res_one rfl rfl ha) (fun a w ha => ⟨by rw [show checkR l = 6 from if_pos (by omega)]; rfl, ha.grown (List.nil_sublist _)⟩)
  · skip
    have hl4 : l.length ≤ 4 := by omega
    have hcr : checkR l = firstBad l := if_neg (by omega)
    refine cod_skip ?_
    refine ex_then ?_
    refine cod_seq ?_
    refine cod_seq ?_
    refine cod_region ?_
    refine lst_move rfl rfl ?_
    refine lst_len rfl rfl Tryd.underlying22 ?_
    refine lst_move rfl rfl ?_
    refine lst_nil ?_
    refine ex_then ?_
    refine cod_block ?_
    refine cod_loop (G := Nat) (fun k => k ≤ l.length ∧ ∀ y ∈ l.take k, y.bad = 0) (fun k => l.length - k) (fun k => [(8, .slice A l.length c), (9, .int .i64 (l.length : Int)), (10, .int .i64 (k : Int))]) (fun k => []) 0 ⟨Nat.zero_le _, by simp⟩ (by repeat (first | exact Sub.nil _ | refine Sub.cons rfl ?_)) (by repeat (first | exact List.Sublist.refl _ | exact List.nil_sublist _ | refine List.Sublist.cons_cons _ ?_ | refine List.Sublist.cons _ ?_)) ?_
    intro k hk
    (try dsimp only at hk ⊢)
    refine cod_seq ?_
    refine cod_region ?_
    refine lst_int rfl rfl rfl bin_lss ?_
    refine lst_nil ?_
    refine ex_then ?_
    refine cod_seq ?_
    refine cod_cond_dec rfl (fun hc1 => ?_) (fun hc1 => ?_)
    · skip
      have hk' : k < l.length := by omega
      obtain ⟨b, o, rfl, hb, hcell⟩ := hA (by omega)
      obtain ⟨x, hx⟩ : ∃ x, l[k]? = some x := ⟨_, List.getElem?_eq_getElem hk'⟩
      have hpos : x.bad ≠ 0 → checkR l = x.bad := by
        intro hne
        rw [hcr, ← List.take_append_drop k l, firstBad_pre hk.2, List.drop_eq_getElem_cons hk', firstBad]
        have : l[k] = x := by rw [List.getElem?_eq_getElem hk'] at hx; exact Option.some.inj hx
        rw [this, if_pos hne]
      refine cod_skip ?_
      refine ex_then ?_
      refine cod_seq ?_
      refine cod_block ?_
      refine cod_seq ?_
      refine cod_region ?_
      refine lst_index (j := k) rfl rfl rfl Tryd.underlying22 F.ti24 rfl hk' ?_
      refine lst_loadN_at (l := [.int .i64 x.needs, .int .i64 x.no, .int .i64 x.takes, .int .i64 x.leaves, .int .i64 x.cost]) rfl rfl F.agg24 F.ti24 rfl (fun a w ha j u hu => ha.old (hcell k x hx j u hu) hb) ?_
      refine lst_alloc rfl F.ti24 ?_
      intro b4
      refine lst_store rfl rfl F.ti24 rfl ?_
      refine lst_nil ?_
      refine ex_then ?_
      refine cod_block ?_
      refine cod_seq ?_
      refine cod_region ?_
      refine lst_field_z rfl rfl F.fi24_0 F.ti3 ?_
      refine lst_load rfl rfl F.one3 ?_
      refine lst_field_z rfl rfl F.fi24_1 F.ti3 ?_
      refine lst_load rfl rfl F.one3 ?_
      refine lst_field_z rfl rfl F.fi24_2 F.ti3 ?_
      refine lst_load rfl rfl F.one3 ?_
      refine lst_field_z rfl rfl F.fi24_3 F.ti3 ?_
      refine lst_load rfl rfl F.one3 ?_
      refine lst_lit (vs := [(0, _), (1, _), (2, _), (3, _)]) rfl rfl Tryd.underlying25 F.ti3 rfl rfl rfl ?_
      intro b23
      refine lst_fn0 (vs := [_]) rfl rfl F.ent98 (fun a w ha => all_c (some ⟨b23, 0, none⟩) 4 x.four (show (4 : Nat) ≤ _ by decide) w (blk_reads (cells := icell) (size := 1) ha (fun _ => rfl) rfl)) ?_
      refine lst_not rfl rfl ?_
      refine lst_assign rfl rfl ?_
      refine lst_nil ?_
      refine ex_then ?_
      refine cod_cond_bool rfl (fun hc2 => ?_) (fun hc2 => ?_)
      · skip
        refine cod_seq ?_
        refine cod_region ?_
        refine lst_assign rfl rfl ?_
        refine lst_nil ?_
        refine ex_then ?_
        refine cod_ret ?_
        refine ex_block_ret ?_
        refine ex_block_ret ?_
        refine ex_then_ret ?_
        refine ex_then_ret ?_
        refine ex_block_ret ?_
        refine ex_then_ret ?_
        have hb1 : x.bad = 1 := if_pos (by simpa using hc2)
        refine ex_ret rfl (fun a w ha => res_one rfl rfl ha) (fun a w ha => ⟨by rw [hpos (by omega), hb1]; rfl, ha.grown (List.nil_sublist _)⟩)
      · skip
        have h4 : allB x.four = true := by simpa using hc2
        have h4' := h4
        simp only [allB, RA.four, List.all_cons, List.all_nil, Bool.and_true, Bool.and_eq_true, inB_true] at h4'
        obtain ⟨n1, hn1⟩ := Int.eq_ofNat_of_zero_le h4'.1.1
        obtain ⟨n2, hn2⟩ := Int.eq_ofNat_of_zero_le h4'.2.1.1
        have hn1' : n1 < 64 := by omega
        have hn2' : n2 < 64 := by omega
        have hbad : x.bad = if n1 &&& n2 ≠ 0 then 9 else if inB x.cost 1 9 = false then 1 else 0 := by
          unfold RA.bad
          rw [if_neg (by rw [h4]; simp), hn1, hn2, Int.toNat_natCast, Int.toNat_natCast]
        rw [hn1, hn2]
        refine cod_seq ?_
        refine cod_region ?_
        refine lst_field_z rfl rfl F.fi24_0 F.ti3 ?_
        refine lst_load rfl rfl F.one3 ?_
        refine lst_field_z rfl rfl F.fi24_1 F.ti3 ?_
        refine lst_load rfl rfl F.one3 ?_
        refine lst_int rfl rfl rfl (fun w => bin_and w (i64_and n1 n2 (by omega) (by omega))) ?_
        refine lst_int rfl rfl rfl bin_neq ?_
        refine lst_assign rfl rfl ?_
        refine lst_nil ?_
        refine ex_then ?_
        refine cod_cond_dec rfl (fun hc3 => ?_) (fun hc3 => ?_)
        · skip
          refine cod_seq ?_
          refine cod_region ?_
          refine lst_assign rfl rfl ?_
          refine lst_nil ?_
          refine ex_then ?_
          refine cod_ret ?_
          refine ex_block_ret ?_
          refine ex_block_ret ?_
          refine ex_then_ret ?_
          refine ex_then_ret ?_
          refine ex_block_ret ?_
          refine ex_then_ret ?_
          have hb9 : x.bad = 9 := by rw [hbad, if_pos (by omega)]
          refine ex_ret rfl (fun a w ha => res_one rfl rfl ha) (fun a w ha => ⟨by rw [hpos (by omega), hb9]; rfl, ha.grown (List.nil_sublist _)⟩)
        · skip
          have h5 : ¬ (n1 &&& n2 ≠ 0) := by omega
          rw [if_neg h5] at hbad
          refine cod_seq ?_
          refine cod_region ?_
          refine lst_field_z rfl rfl F.fi24_4 F.ti3 ?_
          refine lst_load rfl rfl F.one3 ?_
          refine lst_fn0 (vs := [_, _, _]) rfl rfl F.ent99 (fun a w ha => outside_c x.cost 1 9 w) ?_
          refine lst_assign rfl rfl ?_
          refine lst_nil ?_
          refine ex_then ?_
          refine cod_cond_bool rfl (fun hc4 => ?_) (fun hc4 => ?_)
          · skip
            refine cod_seq ?_
            refine cod_region ?_
            refine lst_assign rfl rfl ?_
            refine lst_nil ?_
            refine ex_then ?_
            refine cod_ret ?_
            refine ex_block_ret ?_
            refine ex_block_ret ?_
            refine ex_then_ret ?_
            refine ex_then_ret ?_
            refine ex_block_ret ?_
            refine ex_then_ret ?_
            have hb1 : x.bad = 1 := by rw [hbad, if_pos (by simpa using hc4)]
            refine ex_ret rfl (fun a w ha => res_one rfl rfl ha) (fun a w ha => ⟨by rw [hpos (by omega), hb1]; rfl, ha.grown (List.nil_sublist _)⟩)
          · skip
            have hb0 : x.bad = 0 := by rw [hbad, if_neg (by simpa using hc4)]
            have htake : l.take (k + 1) = l.take k ++ [x] := by rw [List.take_add_one, hx]; rfl
            refine cod_skip ?_
            refine ex_block_normal ?_
            refine ex_block_normal ?_
            refine ex_then ?_
            refine cod_region ?_
            refine lst_int rfl rfl rfl (fun w => bin_add w (wrap_i64' _ (by omega) (by omega))) ?_
            refine lst_move rfl rfl ?_
            refine lst_nil ?_
            refine ex_round (k + 1) ⟨by omega, by rw [htake]; intro y hy; rcases List.mem_append.1 hy with h | h; exact hk.2 y h; simp at h; subst h; exact hb0⟩ (by (try dsimp only); omega) (by repeat (first | exact Sub.nil _ | refine Sub.cons rfl ?_)) (by repeat (first | exact List.Sublist.refl _ | exact List.nil_sublist _ | refine List.Sublist.cons_cons _ ?_ | refine List.Sublist.cons _ ?_))
    · skip
      refine cod_exit ?_
      refine ex_then_exit ?_
      refine ex_then_exit ?_
      refine ex_block_exit ?_
      refine ex_then ?_
      refine cod_seq ?_
      refine cod_region ?_
      refine lst_assign rfl rfl ?_
      refine lst_nil ?_
      refine ex_then ?_
      refine cod_ret ?_
      have hz : checkR l = 0 := by
        have h := hk.2
        rw [List.take_of_length_le (by omega)] at h
        rw [hcr, ← List.append_nil l, firstBad_pre h]; rfl
      refine ex_ret rfl (fun a w ha => res_one rfl rfl ha) (fun a w ha => ⟨by rw [hz]; rfl, ha.grown (List.nil_sublist _)⟩)

end Go.Proofs.YtofkhehcnfiopaaDoor.N
namespace Go.Proofs.YtofkhehcnfiopaaDoor.N
open Go Go.RowKit Go.Proofs

/-- A team: three sets of faults. -/
abbrev Tm := Nat × Nat × Nat
def tcells (t : Tm) : List Value := [.int .u8 (t.1 : Int), .int .u8 (t.2.1 : Int), .int .u8 (t.2.2 : Int)]
def tv (t : Tm) : Value := .agg (tcells t).toArray
def Tm.ok (t : Tm) : Prop := t.1 < 256 ∧ t.2.1 < 256 ∧ t.2.2 < 256
def tls (t : Tm) : List Go.Lit := [.int .u8 (t.1 : Int), .int .u8 (t.2.1 : Int), .int .u8 (t.2.2 : Int)]
theorem teamLaw : WideMaps.KeyLaw Tryd.prog 79 := deep_law (m := 2) (by omega) (by kernel_rfl) (by kernel_rfl) (by rw [Tryd.underlying79])
theorem kt79 : Tryd.prog.keyType 79 = true := by kernel_rfl
theorem tsz : Tryd.prog.types.size + 1 = (Tryd.prog.types.size - 1) + 1 + 1 := by kernel_rfl
theorem co77 : Tryd.prog.cellsOf 77 = 1 := by kernel_rfl
theorem co79 : Tryd.prog.cellsOf 79 = 3 := by kernel_rfl
theorem u8wf (n : Nat) (h : n < 256) : (Go.Lit.int .u8 (n : Int)).wf = true := by
  simp [Go.Lit.wf, IntKind.min, IntKind.max, IntKind.signed, IntKind.bits]
  omega
theorem keyLits_u8 {n : Nat} (h : n < 256) (d : Nat) : Tryd.prog.keyLits (d + 1) 77 [.int .u8 (n : Int)] = some [.int .u8 (n : Int)] := by
  unfold Program.keyLits
  rw [Tryd.underlying77]
  simp [u8wf _ h]
theorem keyLits_team {t : Tm} (h : Tm.ok t) (d : Nat) : Tryd.prog.keyLits (d + 1 + 1) 79 (tcells t) = some (tls t) := by
  obtain ⟨h1, h2, h3⟩ := h
  rw [show Tryd.prog.keyLits (d + 1 + 1) 79 (tcells t) = if (tcells t).length = Tryd.prog.cellsOf 79 then ((List.range 3).mapM fun i => Tryd.prog.keyLits (d + 1) 77 (((tcells t).drop (i * Tryd.prog.cellsOf 77)).take (Tryd.prog.cellsOf 77))).map List.flatten else none from by
    conv => lhs; unfold Program.keyLits
    rw [Tryd.underlying79]]
  rw [co79, co77, if_pos (show (tcells t).length = 3 from rfl)]
  have e : List.range 3 = [0, 1, 2] := rfl
  rw [e]
  simp [tcells, tls, keyLits_u8 h1, keyLits_u8 h2, keyLits_u8 h3]
theorem keyOf_team {t : Tm} (h : Tm.ok t) : keyOf Tryd.prog 79 (tv t) = some (.string (keyBytes (tls t))) := by
  unfold keyOf
  rw [Tryd.underlying79]
  simp only [kt79, Bool.true_and]
  have hf : (tv t).formed Tryd.prog 79 = true := by
    simp [Value.formed, tv, Tryd.underlying79, co79, tcells]
  rw [if_pos hf, tsz]
  have : (tv t).cells.toList = tcells t := rfl
  rw [this, keyLits_team h]
  rfl
theorem tv_inj {t u : Tm} (h : tv t = tv u) : t = u := by
  obtain ⟨a, b, c⟩ := t
  obtain ⟨a', b', c'⟩ := u
  simp [tv, tcells] at h
  simp; omega
/-- The entries of the set that met these teams, in this order. -/
def ent (i : Nat) (t : Tm) : MapEntry := { key := tv t, val := .bool true, born := i }
def ents (l : List Tm) : List MapEntry := l.mapIdx ent
def metObj (l : List Tm) : Obj := .map (ents l).toArray l.length
theorem ents_keys {l : List Tm} {e : MapEntry} (h : e ∈ ents l) : ∃ t ∈ l, e.key = tv t ∧ e.val = .bool true := by
  obtain ⟨i, hi, e1⟩ := List.mem_iff_getElem.1 h
  simp [ents, ent] at e1
  subst e1
  exact ⟨_, List.getElem_mem _, rfl, rfl⟩
theorem mem_ents {l : List Tm} {t : Tm} (h : t ∈ l) : ∃ e ∈ ents l, e.key = tv t := by
  obtain ⟨i, hi, rfl⟩ := List.mem_iff_getElem.1 h
  exact ⟨(ents l)[i]'(by simpa [ents] using hi), List.getElem_mem _, by simp [ents, ent]⟩
section
variable {l : List Tm} {t : Tm} {w : World}
theorem find_team (hl : ∀ u ∈ l, Tm.ok u) (ht : Tm.ok t) : (t ∉ l ∧ (Instr.findKey 79 (tv t) (ents l)).run Tryd.prog w = .ok none w) ∨ (t ∈ l ∧ ∃ j, (Instr.findKey 79 (tv t) (ents l)).run Tryd.prog w = .ok (some (j, .bool true)) w) := by
  have hall : ∀ e ∈ ents l, ∃ x, keyOf Tryd.prog 79 e.key = some x := fun e he => by
    obtain ⟨u, hu, hk, _⟩ := ents_keys he
    exact ⟨_, by rw [hk]; exact keyOf_team (hl u hu)⟩
  rcases teamLaw.find w (keyOf_team ht) (ents l) hall with ⟨h1, h2⟩ | ⟨j, e, h1, h2, h3⟩
  · refine .inl ⟨fun hm => ?_, h1⟩
    obtain ⟨e, he, hk⟩ := mem_ents hm
    exact h2 e he hk
  · obtain ⟨u, hu, hk, hv⟩ := ents_keys (List.mem_of_getElem? h2)
    refine .inr ⟨?_, j, by rw [h1, hv]⟩
    rw [h3] at hk
    rw [tv_inj hk]; exact hu
theorem run_lookup_team {b : Nat} (hb : w.heap[b]? = some (metObj l)) (hl : ∀ u ∈ l, Tm.ok u) (ht : Tm.ok t) : (Instr.lookup 136 (.map (some b)) (tv t) false).run Tryd.prog w = .ok (.bool (decide (t ∈ l))) w := by
  have hck := teamLaw.check w (ents l).toArray.isEmpty (keyOf_team ht)
  have hz : (zeroValue 4).run Tryd.prog w = .ok (.bool false) w := by
    obtain ⟨i, hi, hz, _⟩ := TI.of (P := Tryd.prog) (t := 4) (z := .bool false) (size := 1) (bytes := 1) (by kernel_rfl)
    simp [zeroValue, typeInfo, hi, hz]
  have hg : (getObj b).run Tryd.prog w = .ok (metObj l) w := MapKept.run_getObj_map hb
  unfold Instr.lookup
  simp only [Sem.run_bind, run_underlying Tryd.underlying136, Result.andThen_ok, hg, metObj, Sem.run_pure, hck]
  rcases find_team (w := w) hl ht with ⟨h1, h2⟩ | ⟨h1, j, h2⟩
  · simp [h2, hz, h1]
  · simp [h2, h1]
theorem ents_push (l : List Tm) (t : Tm) : (ents l).toArray.push { key := tv t, val := .bool true, born := l.length } = (ents (l ++ [t])).toArray := by
  apply Array.ext'
  simp [ents, ent, List.mapIdx_append]
theorem run_update_team {b : Nat} (hb : w.heap[b]? = some (metObj l)) (hl : ∀ u ∈ l, Tm.ok u) (ht : Tm.ok t) (hn : t ∉ l) :
    (Instr.mapUpdate 136 (.map (some b)) (tv t) (.bool true)).run Tryd.prog w = .ok () { w with heap := w.heap.setIfInBounds b (metObj (l ++ [t])) } := by
  have hck := teamLaw.check w false (keyOf_team ht)
  have hg : (getObj b).run Tryd.prog w = .ok (metObj l) w := MapKept.run_getObj_map hb
  rcases find_team (w := w) hl ht with ⟨_, h2⟩ | ⟨h1, _⟩
  · unfold Instr.mapUpdate
    simp only [Sem.run_bind, run_underlying Tryd.underlying136, Result.andThen_ok, hg, metObj, hck, h2, ents_push]
    rw [MapKept.run_setObj_map _ hb]
    simp [metObj]
  · exact absurd h1 hn
end
section
variable {C : Ctx} {fr : List (Nat × Value)} {hp hp' : List Res} {a : Act} {w : World} {ops : Array Oper} {Q : Exit → Act → World → Prop} {rest : List Oper}
  {d : Nat} {ty : TypeId} {pos : String} {after : Array Edge}
theorem yld_lookup_team {dst : Option Tmp} (hC : C.P = Tryd.prog) {x y : Operand} {b : Nat} {l : List Tm} {t : Tm} (hx : ev fr x = some (.map (some b))) (hy : ev fr y = some (tv t)) (hm : Res.blk b (metObj l) ∈ hp) (hl : ∀ u ∈ l, Tm.ok u) (ht : Tm.ok t) :
    Yld C ⟨dst, .lookup 136 x y false, ty, pos, after, none⟩ fr hp (.bool (decide (t ∈ l))) := by
  refine ⟨rfl, fun a w ha => ?_⟩
  have := run_lookup_team (ha.mem_blk hm) hl ht
  simp [execOp, ha.eval hx, ha.eval hy, hC, this]
theorem grownBy_setObj (w : World) (b : Nat) (o : Obj) : w.grownBy { w with heap := w.heap.setIfInBounds b o } (some b) :=
  ⟨rfl, rfl, rfl, by simp, fun k _ hk => by
    simp only [Array.getElem?_setIfInBounds]
    rw [if_neg (fun e => hk (by rw [e]))]⟩
theorem lst_update_team (hC : C.P = Tryd.prog) {x y : Operand} {b : Nat} {l : List Tm} {t : Tm} (hx : ev fr x = some (.map (some b))) (hy : ev fr y = some (tv t)) (hl : ∀ u ∈ l, Tm.ok u) (ht : Tm.ok t) (hn : t ∉ l)
    (hu : Upd (.blk b (metObj l)) (.blk b (metObj (l ++ [t]))) hp hp') (k : Lst C ops Q rest fr hp') : Lst C ops Q (⟨none, .mapUpdate 136 x y (.const (.bool true)), ty, pos, after, none⟩ :: rest) fr hp := by
  refine lst_skip (fun a w ha => ?_) k
  have hb := ha.own _ hu.mem
  have h1 := run_update_team hb.2 hl ht hn
  refine ⟨{ w with heap := w.heap.setIfInBounds b (metObj (l ++ [t])) }, ?_, ?_⟩
  · simp only [execOp, ha.eval hx, ha.eval hy, show a.eval (.const (.bool true)) = .bool true from rfl, hC, Sem.run_bind, h1]
    rfl
  · refine ha.turn hu (grownBy_setObj w b _) ⟨hb.1, ?_⟩ (fun k hk => .inl hk)
    have hlt : b < w.heap.size := (Array.getElem?_eq_some_iff.1 hb.2).1
    simp [Array.getElem?_setIfInBounds, hlt]
/-- Two teams: are they apart? -/
theorem run_neq_team {t u : Tm} (ht : Tm.ok t) (hu : Tm.ok u) (x y : Operand) (w : World) : (do eqGuard .neq 79 x y (tv t) (tv u); binOp .neq 79 (tv t) (tv u) : Sem Value).run Tryd.prog w = .ok (.bool (decide (t ≠ u))) w := by
  obtain ⟨r, hr, hiff⟩ := run_equal_deep (P := Tryd.prog) w (m := 2) (by omega) (k := 79) (by kernel_rfl) (by rw [Tryd.underlying79]) (keyOf_team ht) (keyOf_team hu)
  have hg : (eqGuard .neq 79 x y (tv t) (tv u)).run Tryd.prog w = .ok () w := by
    have h1 : Tryd.prog.eqGuardType Tryd.prog.depth 79 = false := by kernel_rfl
    have hp : (program : Sem Program).run Tryd.prog w = .ok Tryd.prog w := rfl
    simp only [eqGuard, tv, Sem.run_bind, hp, Result.andThen_ok, h1]
    simp
  have hb : (binOp .neq 79 (tv t) (tv u)).run Tryd.prog w = .ok (.bool (!r)) w := by
    show (do pure (.bool (!(← Op.equal 79 (tv t) (tv u)))) : Sem Value).run Tryd.prog w = _
    simp only [Sem.run_bind, hr, Result.andThen_ok, Sem.run_pure]
  simp only [Sem.run_bind, hg, Result.andThen_ok, hb]
  have e1 : r = true ↔ t = u := by
    rw [hiff]
    constructor
    · intro e
      exact tv_inj (teamLaw.inj (by rw [keyOf_team ht, e]) (keyOf_team hu))
    · rintro rfl; rfl
  have e2 : (!r) = decide (t ≠ u) := by
    cases r with
    | true => simp [e1.1 rfl]
    | false =>
      have : t ≠ u := fun e => by have := e1.2 e; cases this
      simp [this]
  rw [e2]
end
end Go.Proofs.YtofkhehcnfiopaaDoor.N
namespace Go.Proofs.YtofkhehcnfiopaaDoor.N
open Go Go.RowKit Go.Proofs
def ncell (n : Nat) : List Value := [.int .i64 (n : Int)]
section
variable {C : Ctx} {fr : List (Nat × Value)} {hp hp' : List Res} {a : Act} {w : World} {ops : Array Oper} {Q : Exit → Act → World → Prop} {rest : List Oper}
  {d : Nat} {ty : TypeId} {pos : String} {after : Array Edge}
theorem row_at (ha : At C fr hp a w) {α : Type} {cells : α → List Value} {size e n c g k j : Nat} {l : List α} {x : α} {u : Value} (hm : Res.row e size (some ⟨g, 0, none⟩) n c (l.flatMap cells) ∈ hp) (hs : ∀ x, (cells x).length = size) (hk : l[k]? = some x) (hu : (cells x)[j]? = some u) :
    w.cell? ⟨g, 0 + k * size + j, none⟩ = some u := by
  rw [Nat.zero_add]
  exact row_cell ha hm rfl (flatMap_get hs l k x hk j u hu)
theorem que_at (ha : At C fr hp a w) {α : Type} {cells : α → List Value} {size e n c g o k j : Nat} {l : List α} {x : α} {u : Value} (hm : Res.que e size (some ⟨g, o, none⟩) n c (l.flatMap cells) ∈ hp) (hs : ∀ x, (cells x).length = size) (hk : l[k]? = some x) (hu : (cells x)[j]? = some u) :
    w.cell? ⟨g, o + k * size + j, none⟩ = some u := by
  rw [Nat.add_assoc]
  exact que_cell ha hm _ _ (flatMap_get hs l k x hk j u hu)
/-- A slice's literal of no elements may grow. -/
theorem At.as_row (ha : At C fr hp a w) {b e size : Nat} (hu : Upd (.blk b (.cells ([] : List Value).toArray e (0, 0))) (.row e size (some ⟨b, 0, none⟩) 0 0 []) hp hp') : At C fr hp' a w := by
  have hb := ha.own _ hu.mem
  refine ha.turn hu (⟨rfl, rfl, rfl, Nat.le_refl _, fun _ _ _ => rfl⟩ : w.grownBy w _) ⟨by simp, .inr ⟨b, 0, #[], rfl, hb.1, hb.2, Nat.le_refl _, Nat.zero_le _, by simp, by simp⟩⟩ (fun k hk => .inl ?_)
  exact hk
theorem lst_as_row {l : List Oper} {b e : Nat} (size : Nat) (hu : Upd (.blk b (.cells ([] : List Value).toArray e (0, 0))) (.row e size (some ⟨b, 0, none⟩) 0 0 []) hp hp') (h : Lst C ops Q l fr hp') : Lst C ops Q l fr hp := fun a w ha => h a w (ha.as_row hu)
/-- What is appended lies where it is known to lie. -/
theorem lst_append_at {x y : Operand} {t e : TypeId} {A : Option Addr} {p : Addr} {n c m cb size bytes : Nat} {xs news : List Value} {z : Value} {hp' : Option Addr → Nat → List Res} (hd : Nat.blt d C.N = true)
    (hx : ev fr x = some (.slice A n c)) (hy : ev fr y = some (.slice (some p) m cb)) (ht : C.P.underlying t = some (.slice e)) (hi : TI C.P e z size bytes) (hzs : z.cells.size = size) (hs0 : Nat.blt 0 size = true)
    (hnews : ∀ a w, At C fr hp a w → ∀ j u, news[j]? = some u → w.cell? (p.add j) = some u) (hl : news.length = m * size) (ho : ∀ u ∈ news, u.oneCell' = true) [hr : InR A e size n c xs hp] [hu : ∀ A' c', UpR A e size n c xs (.row e size A' (n + m) c' (xs ++ news)) hp (hp' A' c')]
    (hplace : ∀ (w : World) (v' : Value) (w' : World), w.ownsRow C.B e size (.slice A n c) n xs → (∀ j u, news[j]? = some u → w.cell? (p.add j) = some u) → (Builtin.append_ #[t, t] ty #[.slice A n c, .slice (some p) m cb]).run C.P w = .ok v' w' → ∀ k, v'.ownBlock = some k → (Value.slice A n c).ownBlock = some k ∨ w.heap.size ≤ k)
    (h63 : n + m ≤ maxLen) (hbytes : (n + m) * bytes ≤ 140737488355328)
    (k : ∀ A' c', Lst C ops Q rest ((d, .slice A' (n + m) c') :: fr) (hp' A' c')) :
    Lst C ops Q (⟨some d, .call { callee := .builtin .append, args := #[x, y], argTypes := #[t, t] }, ty, pos, after, none⟩ :: rest) fr hp := by
  intro a w ha
  obtain ⟨i, hi1, hi2, hi3, hi4⟩ := hi
  have hown := ha.own _ hr.mem
  subst hi3; subst hi4
  obtain ⟨v', w', hrun, hown', hg, _⟩ := run_append_own (P := C.P) w C.B t ty e i z i.size i.bytes ht hi1 hi2 rfl rfl hzs (lt_of_blt hs0) _ n xs hown p m cb news hl (hnews a w ha) ho h63 hbytes ha.base
  have hpl := hplace w v' w' hown (hnews a w ha) hrun
  obtain ⟨A', c', rfl⟩ := ownsRow_shape hown'
  refine wpList_plain rfl fun K hK => ?_
  unfold Oper.wp
  have hr' : (execOp a.eval ⟨some d, .call { callee := .builtin .append, args := #[x, y], argTypes := #[t, t] }, ty, pos, after, none⟩).run C.P w = .ok (.value (.slice A' (n + m) c')) w' := by
    simp only [execOp, resolve, invoke, builtin, Sem.run_bind, Sem.run_pure, Result.andThen_ok, List.map_toArray, List.map_cons, List.map_nil, ha.eval hx, ha.eval hy, hrun]
  rw [hr']
  exact hK _ _ (k A' c' _ _ ((ha.turn (hu A' c').upd hg hown' hpl).put (lt_of_blt hd) _))
/-- A list of numbers, appended. -/
theorem lst_append_ints {x y : Operand} {t e : TypeId} {A : Option Addr} {p : Addr} {n c m cb bytes : Nat} {xs : List Value} {l : List Nat} {z : Value} {hp' : Option Addr → Nat → List Res} (hd : Nat.blt d C.N = true)
    (hx : ev fr x = some (.slice A n c)) (hy : ev fr y = some (.slice (some p) m cb)) (ht : C.P.underlying t = some (.slice e)) (hi : TI C.P e z 1 bytes) (hzs : z.cells.size = 1)
    (hnews : ∀ a w, At C fr hp a w → ∀ j u, (ints l)[j]? = some u → w.cell? (p.add j) = some u) (hl : l.length = m) [hr : InR A e 1 n c xs hp] [hu : ∀ A' c', UpR A e 1 n c xs (.row e 1 A' (n + m) c' (xs ++ ints l)) hp (hp' A' c')]
    (h63 : n + m ≤ maxLen) (hbytes : (n + m) * bytes ≤ 140737488355328)
    (k : ∀ A' c', Lst C ops Q rest ((d, .slice A' (n + m) c') :: fr) (hp' A' c')) :
    Lst C ops Q (⟨some d, .call { callee := .builtin .append, args := #[x, y], argTypes := #[t, t] }, ty, pos, after, none⟩ :: rest) fr hp := by
  have ho : ∀ u ∈ ints l, u.oneCell' = true := by
    intro u hu'
    obtain ⟨n, _, rfl⟩ := List.mem_map.1 hu'
    simp [Value.oneCell']
  have hi' := hi
  obtain ⟨i, hi1, hi2, hi3, hi4⟩ := hi'
  subst hi4
  refine lst_append_at hd hx hy ht hi hzs rfl hnews (by rw [ints_len]; omega) ho (fun w v' w' hown hn hrun => ?_) h63 hbytes k
  exact append_place ht hi1 hi2 (hi3 ▸ hown) (by rw [ints_len, hi3]; omega) hn ho h63 hbytes hrun
/-- A slice and nil. -/
theorem run_eql_nil {t e : TypeId} {P : Program} (ht : P.underlying t = some (.slice e)) (A : Option Addr) (n c : Nat) (x y : Operand) (w : World) :
    (do eqGuard .eql t x y (.slice A n c) (.slice none 0 0); binOp .eql t (.slice A n c) (.slice none 0 0) : Sem Value).run P w = .ok (.bool A.isNone) w := by
  have hg : (eqGuard .eql t x y (.slice A n c) (.slice none 0 0)).run P w = .ok () w := by simp [eqGuard]
  have hb : (binOp .eql t (.slice A n c) (.slice none 0 0)).run P w = .ok (.bool A.isNone) w := by
    show (do pure (.bool (← Op.equal t (.slice A n c) (.slice none 0 0))) : Sem Value).run P w = _
    have he : (Op.equal t (.slice A n c) (.slice none 0 0)).run P w = .ok A.isNone w := by
      show (Op.equalIn (9999 + 1) t (.slice A n c) (.slice none 0 0)).run P w = _
      unfold Op.equalIn
      simp only [Sem.run_bind, run_underlying ht, Result.andThen_ok]
      cases A <;> simp
    simp only [Sem.run_bind, he, Result.andThen_ok, Sem.run_pure]
  simp only [Sem.run_bind, hg, Result.andThen_ok, hb]
/-- One cell of a block, at whatever place. -/
theorem lst_store_any {x y : Operand} {t ct : TypeId} {b o : Nat} {cs cs' : List Value} {v z : Value} {m : Nat} (hx : ev fr x = some (.pointer (some ⟨b, o, none⟩))) (hy : ev fr y = some v) (hi : TI C.P t z 1 m) [hc : Cells v [v]]
    (ho : o < cs.length) (hcs : cs' = cs.set o v) (hu : Upd (.blk b (.cells cs.toArray ct (0, 0))) (.blk b (.cells cs'.toArray ct (0, 0))) hp hp')
    (k : Lst C ops Q rest fr hp') : Lst C ops Q (⟨none, .store t x y, ty, pos, after, none⟩ :: rest) fr hp := by
  obtain ⟨i, hi, _, hsz, _⟩ := hi
  refine lst_skip (fun a w ha => ?_) k
  have hs : Splice cs o [v] cs' := ⟨by rw [hcs, List.set_eq_take_append_cons_drop, if_pos ho, List.append_assoc]; rfl, by simp; omega⟩
  obtain ⟨w', h1, h2, h3⟩ := splice_upd hs (ha.mem_blk hu.mem) hc.one C.P
  refine ⟨w', ?_, ha.turn hu h3 ⟨(ha.own _ hu.mem).1, h2⟩ (fun k hk => .inl hk)⟩
  simp [execOp, ha.eval hx, ha.eval hy, Instr.storeAt, Instr.sureAddr, storeVar, sizeOf, typeInfo, hi, hc.eq, hsz, h1]
end
theorem RdL.ints_at {w : World} {p : Addr} {l : List Nat} (h : RdL ncell 1 w (some p) l) {j : Nat} {u : Value} (hu : (ints l)[j]? = some u) : w.cell? (p.add j) = some u := by
  have hj : j < l.length := by
    rcases Nat.lt_or_ge j l.length with h1 | h1
    · exact h1
    · rw [List.getElem?_eq_none (by rw [ints_len]; exact h1)] at hu; cases hu
  obtain ⟨b, o, h1, _, h3⟩ := h (by omega)
  cases h1
  have := h3 j l[j] (List.getElem?_eq_getElem hj) 0 u (by
    simp only [ints, List.getElem?_map, List.getElem?_eq_getElem hj, Option.map_some] at hu
    exact hu)
  rw [addr_add]
  simpa using this
theorem ints_flat (l : List Nat) : ints l = l.flatMap ncell := by
  induction l with
  | nil => rfl
  | cons n l ih => rw [List.flatMap_cons, ← ih]; rfl
/-- A map is cleared. -/
theorem lst_clear_map {C : Ctx} {fr : List (Nat × Value)} {hp hp' : List Res} {ops : Array Oper} {Q : Exit → Act → World → Prop} {rest : List Oper} {ty : TypeId} {pos : String} {after : Array Edge}
    {x : Operand} {t k e b n : Nat} {es : Array MapEntry} (hx : ev fr x = some (.map (some b))) (ht : C.P.underlying t = some (.map k e)) (hu : Upd (.blk b (.map es n)) (.blk b (.map #[] n)) hp hp')
    (kk : Lst C ops Q rest fr hp') : Lst C ops Q (⟨none, .call { callee := .builtin .clear, args := #[x], argTypes := #[t] }, ty, pos, after, none⟩ :: rest) fr hp := by
  intro a w ha
  refine wpList_plain rfl fun K hK => ?_
  have hb := ha.own _ hu.mem
  have hlt : b < w.heap.size := (Array.getElem?_eq_some_iff.1 hb.2).1
  unfold Oper.wp
  have hr : (execOp a.eval ⟨none, .call { callee := .builtin .clear, args := #[x], argTypes := #[t] }, ty, pos, after, none⟩).run C.P w = .ok (.value (.tuple #[])) { w with heap := w.heap.setIfInBounds b (.map #[] n) } := by
    simp [execOp, resolve, invoke, builtin, ha.eval hx, Builtin.clear_, run_underlying ht, MapKept.run_getObj_map hb.2, MapKept.run_setObj_map _ hb.2]
  rw [hr]
  refine hK _ _ (kk _ _ ?_)
  exact ha.turn hu (grownBy_setObj w b _) ⟨hb.1, by simp [hlt]⟩ (fun k hk => .inl hk)
/-- A walk through teams: who, in which order; where it led. -/
structure Wk where
  A : Option Addr
  c : Nat
  how : List Nat
  team : Tm
def Wk.cells (k : Wk) : List Value := .slice k.A k.how.length k.c :: tcells k.team
def Wk.res (k : Wk) : Res := .row 3 1 k.A k.how.length k.c (ints k.how)
theorem Wk.cells_len (k : Wk) : k.cells.length = 4 := rfl
def pushT (todo : List Wk) (met : List Tm) (k : Wk) : List Wk := if k.team ∈ met then todo else todo ++ [k]
def pushM (met : List Tm) (t : Tm) : List Tm := if t ∈ met then met else met ++ [t]
end Go.Proofs.YtofkhehcnfiopaaDoor.N
namespace Go.Proofs.YtofkhehcnfiopaaDoor.N
open Go Go.RowKit Go.Proofs
theorem F.agg75 : aggB Tryd.prog 75 = true := by unfold aggB; rw [Tryd.underlying75]
theorem F.ent46 : Enters Tryd.prog 46 := enters_of Tryd.func46 rfl (by kernel_rfl)
theorem F.pl75 : Places Tryd.prog 75 [(0, 1), (1, 1)] := .inl ⟨_, Tryd.underlying75, by kernel_rfl⟩
theorem F.pl89 : Places Tryd.prog 89 [(0, 5)] := .inl ⟨_, Tryd.underlying89, by kernel_rfl⟩
theorem F.ti75 : TI Tryd.prog 75 (.agg [.slice none 0 0, .int .u8 0].toArray) 2 32 := TI.of (by kernel_rfl)
theorem begin_ok (A : Option Addr) (c : Nat) (ags : List Ag) (hok : Oks ags) (w : World) (hA : RdL Ag.cells 5 w A ags) : Calls Tryd.prog 75 #[.slice A ags.length c] w fun e w' => ∃ A' c', e = .returned (.agg [.slice A' ags.length c', .int .u8 (usedAll ags.length : Nat)].toArray) ∧ Grew w w' [.row 89 5 A' ags.length c' (ags.flatMap Ag.cells)] := by
  refine enter (N := 33) [(0, .slice A ags.length c)] Tryd.func75 rfl Tryd.ntmps75 rfl rfl ?_
  refine cod_seq ?_
  refine cod_region ?_
  refine lst_alloc rfl F.ti75 ?_
  intro b2
  refine lst_nil ?_
  refine ex_then ?_
  refine cod_seq ?_
  refine cod_seq ?_
  refine cod_region ?_
  refine lst_move rfl rfl ?_
  refine lst_fn0 (vs := [_]) rfl rfl F.ent46 (fun a w ha => (by have h := check_c A c (ags.map Ag.raw) w (hA.raw.later ha.below); rw [checkR_raw hok] at h; simpa only [List.length_map] using h)) ?_
  refine lst_assign rfl rfl ?_
  refine lst_nil ?_
  refine ex_then ?_
  refine cod_seq ?_
  refine cod_region ?_
  refine lst_move rfl rfl ?_
  refine lst_int rfl rfl rfl bin_neq ?_
  refine lst_nil ?_
  refine ex_then ?_
  refine cod_cond_dec rfl (fun hc0 => ?_) (fun hc0 => ?_)
  · skip
    exact (hc0 rfl).elim -- done
  · skip
    refine cod_skip ?_
    refine ex_then ?_
    refine cod_seq ?_
    refine cod_region ?_
    refine lst_move rfl rfl ?_
    refine lst_len rfl rfl Tryd.underlying22 ?_
    refine lst_shl rfl rfl rfl (by omega) (shl_one hok.1) ?_
    refine lst_int rfl rfl rfl (fun w => bin_sub w (sub_one hok.1)) ?_
    refine lst_struct (vs := [(1, _)]) (l' := [_, _]) rfl rfl F.ti75 F.pl75 (.cons rfl rfl (.nil _)) rfl ?_
    refine lst_alloc rfl F.ti75 ?_
    intro b4
    refine lst_store rfl rfl F.ti75 rfl ?_
    refine lst_nil ?_
    refine ex_then ?_
    refine cod_seq ?_
    refine cod_seq ?_
    refine cod_region ?_
    refine lst_move rfl rfl ?_
    refine lst_len rfl rfl Tryd.underlying22 ?_
    refine lst_move rfl rfl ?_
    refine lst_nil ?_
    refine ex_then ?_
    refine cod_block ?_
    refine cod_nil 89 5 ?_
    refine cod_loop (G := Nat × Option Addr × Nat) (fun g => g.1 ≤ ags.length) (fun g => ags.length - g.1) (fun g => [(2, .pointer (some ⟨b2, 0, none⟩)), (4, .pointer (some ⟨b4, 0, none⟩)), (18, .slice A ags.length c), (19, .int .i64 (ags.length : Int)), (20, .int .i64 (g.1 : Int))]) (fun g => [.row 89 5 g.2.1 g.1 g.2.2 ((ags.take g.1).flatMap Ag.cells), .blk b4 (.cells [.slice g.2.1 g.1 g.2.2, .int .u8 (usedAll ags.length : Nat)].toArray 75 (0, 0)), .blk b2 (.cells [.slice none 0 0, .int .u8 0].toArray 75 (0, 0))]) (0, none, 0) (Nat.zero_le _) (by repeat (first | exact Sub.nil _ | refine Sub.cons rfl ?_)) (by repeat (first | exact List.Sublist.refl _ | exact List.nil_sublist _ | refine List.Sublist.cons_cons _ ?_ | refine List.Sublist.cons _ ?_)) ?_
    rintro ⟨k, A', c'⟩ hk
    (try dsimp only at hk ⊢)
    refine cod_seq ?_
    refine cod_region ?_
    refine lst_int rfl rfl rfl bin_lss ?_
    refine lst_nil ?_
    refine ex_then ?_
    refine cod_seq ?_
    refine cod_cond_dec rfl (fun hc1 => ?_) (fun hc1 => ?_)
    · skip
      have hk' : k < ags.length := by omega
      obtain ⟨b, o, rfl, hb, hcell⟩ := hA (by omega)
      obtain ⟨x, hx⟩ : ∃ x, ags[k]? = some x := ⟨_, List.getElem?_eq_getElem hk'⟩
      have hxo : x.ok := hok.2 x (List.mem_of_getElem? hx)
      have hxd : ags.getD k default = x := by rw [List.getD_eq_getElem?_getD, hx]; rfl
      refine cod_skip ?_
      refine ex_then ?_
      refine cod_seq ?_
      refine cod_block ?_
      refine cod_seq ?_
      refine cod_region ?_
      refine lst_index (j := k) rfl rfl rfl Tryd.underlying22 F.ti24 rfl hk' ?_
      refine lst_loadN_at (l := [.int .i64 (x.needs : Int), .int .i64 (x.no : Int), .int .i64 (x.takes : Int), .int .i64 (x.leaves : Int), .int .i64 (x.cost : Int)]) rfl rfl F.agg24 F.ti24 rfl (fun a w ha j u hu => ha.old (hcell k x hx j u hu) hb) ?_
      refine lst_alloc rfl F.ti24 ?_
      intro b6
      refine lst_store rfl rfl F.ti24 rfl ?_
      refine lst_nil ?_
      refine ex_then ?_
      refine cod_region ?_
      refine lst_field_z rfl rfl F.fi75_0 F.ti72 ?_
      refine lst_load rfl rfl F.one72 ?_
      refine lst_loadN rfl rfl F.agg24 F.ti24 ?_
      refine lst_struct (vs := [(0, _)]) (l' := [_, _, _, _, _]) rfl rfl F.ti89 F.pl89 (.cons rfl rfl (.nil _)) rfl ?_
      refine lst_litN (vs := [(0, _)]) [_, _, _, _, _] rfl rfl Tryd.underlying72 F.ti89 rfl rfl rfl ⟨rfl, [_, _, _, _, _], [], rfl, rfl, rfl, rfl⟩ ?_
      intro b28
      refine lst_append rfl rfl rfl Tryd.underlying72 F.ti89 rfl rfl rfl (by have := hok.1; unfold maxLen; omega) (by have := hok.1; omega) ?_
      intro A1 c1
      refine lst_field_z rfl rfl F.fi75_0 F.ti72 ?_
      refine lst_store rfl rfl F.ti72 rfl ?_
      refine lst_nil ?_
      refine ex_block_normal ?_
      refine ex_then ?_
      refine cod_region ?_
      refine lst_int rfl rfl rfl (fun w => bin_add w (wrap_i64' _ (by omega) (by have := hok.1; omega))) ?_
      refine lst_move rfl rfl ?_
      refine lst_nil ?_
      have e : (ags.take (k + 1)).flatMap Ag.cells = (ags.take k).flatMap Ag.cells ++ [.int .i64 (x.needs : Int), .int .i64 (x.no : Int), .int .i64 (x.takes : Int), .int .i64 (x.leaves : Int), .int .i64 (x.cost : Int)] := by rw [List.take_add_one, hx, List.flatMap_append]; rfl
      refine ex_round (k + 1, A1, c1) (by (try dsimp only); omega) (by (try dsimp only); omega) (by (try dsimp only); (try rw [e]); repeat (first | exact Sub.nil _ | refine Sub.cons rfl ?_)) (by (try dsimp only); (try rw [e]); repeat (first | exact List.Sublist.refl _ | exact List.nil_sublist _ | refine List.Sublist.cons_cons _ ?_ | refine List.Sublist.cons _ ?_))
    · skip
      refine cod_exit ?_
      refine ex_then_exit ?_
      refine ex_then_exit ?_
      refine ex_block_exit ?_
      refine ex_then ?_
      refine cod_seq ?_
      refine cod_region ?_
      refine lst_loadN rfl rfl F.agg75 F.ti75 ?_
      refine lst_store rfl rfl F.ti75 rfl ?_
      refine lst_nil ?_
      refine ex_then ?_
      refine cod_ret ?_
      have hfin : ags.length = k := by omega
      subst hfin
      rw [List.take_length]
      refine ex_ret rfl (fun a w ha => by exact res_cellN (ha := ha) rfl rfl F.agg75 F.ti75 rfl) (fun a w ha => ⟨A', c', rfl, ha.grown (by repeat (first | exact List.Sublist.refl _ | exact List.nil_sublist _ | refine List.Sublist.cons_cons _ ?_ | refine List.Sublist.cons _ ?_))⟩)

theorem begin_bad (A : Option Addr) (c : Nat) (l : List RA) (hn : checkR l ≠ 0) (w : World) (hA : RdL RA.cells 5 w A l) : Calls Tryd.prog 75 #[.slice A l.length c] w fun e w' => e = .panicked [{ v := .iface 133 (.int .i64 ((checkR l : Nat) : Int)), recovered := false }] ∧ Grew w w' [] := by
  refine enter (N := 33) [(0, .slice A l.length c)] Tryd.func75 rfl Tryd.ntmps75 rfl rfl ?_
  refine cod_seq ?_
  refine cod_region ?_
  refine lst_alloc rfl F.ti75 ?_
  intro b2
  refine lst_nil ?_
  refine ex_then ?_
  refine cod_seq ?_
  refine cod_seq ?_
  refine cod_region ?_
  refine lst_move rfl rfl ?_
  refine lst_fn0 (vs := [_]) rfl rfl F.ent46 (fun a w ha => check_c A c l w (hA.later ha.below)) ?_
  refine lst_assign rfl rfl ?_
  refine lst_nil ?_
  refine ex_then ?_
  refine cod_seq ?_
  refine cod_region ?_
  refine lst_move rfl rfl ?_
  refine lst_int rfl rfl rfl bin_neq ?_
  refine lst_nil ?_
  refine ex_then ?_
  refine cod_cond_dec rfl (fun hc0 => ?_) (fun hc0 => ?_)
  · skip
    refine cod_region ?_
    refine lst_move rfl rfl ?_
    refine lst_makeInterface rfl rfl Tryd.underlying133 rfl ?_
    refine lst_panic rfl ?_
    refine ex_then_panic ?_
    exact ex_panic rfl (fun a w ha => ⟨rfl, ha.grown (List.nil_sublist _)⟩)
  · skip
    exact (hc0 (by omega)).elim -- done

theorem melt_ok (f : Nat) (hf : f < 64) (w : World) : Calls Tryd.prog 76 #[.int .i64 (f : Int)] w fun e w' => e = .returned (.int .u8 (f : Int)) ∧ Grew w w' [] := by
  refine enter (N := 11) [(0, .int .i64 (f : Int))] Tryd.func76 rfl Tryd.ntmps76 rfl rfl ?_
  refine cod_seq ?_
  refine cod_region ?_
  refine lst_assign rfl rfl ?_
  refine lst_nil ?_
  refine ex_then ?_
  refine cod_seq ?_
  refine cod_seq ?_
  refine cod_region ?_
  refine lst_move rfl rfl ?_
  refine lst_lit (vs := [(0, _)]) rfl rfl Tryd.underlying25 F.ti3 rfl rfl rfl ?_
  intro b4
  refine lst_fn0 (vs := [_]) rfl rfl F.ent98 (fun a w ha => (by have h := all_c (some ⟨b4, 0, none⟩) 1 [(f : Int)] (show (1 : Nat) ≤ _ by decide) w (blk_reads (cells := icell) (size := 1) ha (fun _ => rfl) rfl); rw [show allB [(f : Int)] = inB (f : Int) 0 63 from by simp [allB]] at h; exact h)) ?_
  refine lst_not rfl rfl ?_
  refine lst_nil ?_
  refine ex_then ?_
  refine cod_cond_bool rfl (fun hc0 => ?_) (fun hc0 => ?_)
  · skip
    have : inB (f : Int) 0 63 = true := by rw [inB_true]; omega
    rw [this] at hc0; cases hc0 -- done
  · skip
    refine cod_skip ?_
    refine ex_then ?_
    refine cod_seq ?_
    refine cod_region ?_
    refine lst_move rfl rfl ?_
    refine lst_convert rfl rfl Tryd.underlying3 Tryd.underlying77 (wrap_u8 _ (by omega)) ?_
    refine lst_int rfl rfl rfl (fun w => bin_and w (u8_and f 63 (by omega) (by omega))) ?_
    refine lst_assign rfl rfl ?_
    refine lst_nil ?_
    refine ex_then ?_
    refine cod_ret ?_
    have e : f &&& 63 = f := Nat.and_two_pow_sub_one_of_lt_two_pow (n := 6) hf
    refine ex_ret rfl (fun a w ha => res_one rfl rfl ha) (fun a w ha => ⟨by rw [e], ha.grown (List.nil_sublist _)⟩)

theorem melt_bad (n : Int) (hn : inB n 0 63 = false) (w : World) : Calls Tryd.prog 76 #[.int .i64 n] w fun e w' => e = .panicked [{ v := .iface 133 (.int .i64 1), recovered := false }] ∧ Grew w w' [] := by
  refine enter (N := 11) [(0, .int .i64 n)] Tryd.func76 rfl Tryd.ntmps76 rfl rfl ?_
  refine cod_seq ?_
  refine cod_region ?_
  refine lst_assign rfl rfl ?_
  refine lst_nil ?_
  refine ex_then ?_
  refine cod_seq ?_
  refine cod_seq ?_
  refine cod_region ?_
  refine lst_move rfl rfl ?_
  refine lst_lit (vs := [(0, _)]) rfl rfl Tryd.underlying25 F.ti3 rfl rfl rfl ?_
  intro b4
  refine lst_fn0 (vs := [_]) rfl rfl F.ent98 (fun a w ha => (by have h := all_c (some ⟨b4, 0, none⟩) 1 [n] (show (1 : Nat) ≤ _ by decide) w (blk_reads (cells := icell) (size := 1) ha (fun _ => rfl) rfl); rw [show allB [n] = inB n 0 63 from by simp [allB]] at h; exact h)) ?_
  refine lst_not rfl rfl ?_
  refine lst_nil ?_
  refine ex_then ?_
  refine cod_cond_bool rfl (fun hc0 => ?_) (fun hc0 => ?_)
  · skip
    refine cod_region ?_
    refine lst_makeInterface rfl rfl Tryd.underlying133 rfl ?_
    refine lst_panic rfl ?_
    refine ex_then_panic ?_
    exact ex_panic rfl (fun a w ha => ⟨rfl, ha.grown (List.nil_sublist _)⟩)
  · skip
    rw [hn] at hc0; cases hc0 -- done

end Go.Proofs.YtofkhehcnfiopaaDoor.N
namespace Go.Proofs.YtofkhehcnfiopaaDoor.N
open Go Go.RowKit Go.Proofs
theorem F.agg142 : aggB Tryd.prog 142 = true := by unfold aggB; rw [Tryd.underlying142]
theorem F.agg79 : aggB Tryd.prog 79 = true := by unfold aggB; rw [Tryd.underlying79]
theorem F.fi139_0 : FI Tryd.prog 139 0 137 0 := ⟨_, _, Tryd.underlying139, rfl, rfl, rfl⟩
theorem F.fi139_1 : FI Tryd.prog 139 1 136 1 := ⟨_, _, Tryd.underlying139, rfl, rfl, rfl⟩
theorem F.follows : Tryd.prog.follows .mixedOrders = true := by kernel_rfl
theorem F.one136 : One Tryd.prog 136 := ⟨by unfold aggB; rw [Tryd.underlying136], by rw [Tryd.underlying136]; simp⟩
theorem F.one137 : One Tryd.prog 137 := ⟨by unfold aggB; rw [Tryd.underlying137], by rw [Tryd.underlying137]; simp⟩
theorem F.ti136 : TI Tryd.prog 136 (.map none) 1 8 := TI.of (by kernel_rfl)
theorem F.ti137 : TI Tryd.prog 137 (.slice none 0 0) 1 24 := TI.of (by kernel_rfl)
theorem F.ti142 : TI Tryd.prog 142 (.agg [.slice none 0 0, .int .u8 0, .int .u8 0, .int .u8 0].toArray) 4 32 := TI.of (by kernel_rfl)
theorem F.ti79 : TI Tryd.prog 79 (.agg [.int .u8 0, .int .u8 0, .int .u8 0].toArray) 3 3 := TI.of (by kernel_rfl)
theorem clone_c (A : Option Addr) (c : Nat) (l : List Nat) (hl : l.length ≤ 400000) (hn : A = none → l = []) (w : World) (hA : RdL ncell 1 w A l) : Calls Tryd.prog 114 #[.slice A l.length c] w fun e w' => ∃ A' c', e = .returned (.slice A' l.length c') ∧ Grew w w' [.row 3 1 A' l.length c' (ints l)] := by
  refine enter (N := 8) [(0, .slice A l.length c)] Tryd.func114 rfl Tryd.ntmps114 rfl rfl ?_
  refine cod_seq ?_
  refine cod_region ?_
  refine lst_assign rfl rfl ?_
  refine lst_nil ?_
  refine ex_then ?_
  refine cod_seq ?_
  refine cod_seq ?_
  refine cod_region ?_
  refine lst_move rfl rfl ?_
  refine lst_bin rfl rfl rfl (run_eql_nil Tryd.underlying25 _ _ _ _ _) ?_
  refine lst_nil ?_
  refine ex_then ?_
  refine cod_cond_bool rfl (fun hc0 => ?_) (fun hc0 => ?_)
  · skip
    refine cod_seq ?_
    refine cod_region ?_
    refine lst_assign rfl rfl ?_
    refine lst_nil ?_
    refine ex_then ?_
    refine cod_ret ?_
    refine ex_then_ret ?_
    have hA0 : A = none := by cases A with
      | none => rfl
      | some p => cases hc0
    obtain rfl := hn hA0
    exact ex_ret rfl (fun a w ha => res_one rfl rfl ha) (fun a w ha => ⟨none, 0, rfl, (ha.add_nil 3 1).grown (by repeat (first | exact List.Sublist.refl _ | exact List.nil_sublist _ | refine List.Sublist.cons_cons _ ?_ | refine List.Sublist.cons _ ?_))⟩)
  · skip
    obtain ⟨p, rfl⟩ : ∃ p, A = some p := by cases A with
      | none => cases hc0
      | some p => exact ⟨p, rfl⟩
    refine cod_skip ?_
    refine ex_then ?_
    refine cod_seq ?_
    refine cod_region ?_
    refine lst_lit0 rfl Tryd.underlying25 F.ti3 ?_
    intro b5
    refine lst_as_row 1 (.head _) ?_
    refine lst_move rfl rfl ?_
    refine lst_append_ints rfl rfl rfl Tryd.underlying25 F.ti3 rfl (fun a w ha j u hu => (hA.later ha.below).ints_at hu) rfl (by unfold maxLen; omega) (by omega) ?_
    intro A1 c1
    refine lst_assign rfl rfl ?_
    refine lst_nil ?_
    refine ex_then ?_
    refine cod_ret ?_
    simp only [Nat.zero_add, List.nil_append]
    exact ex_ret rfl (fun a w ha => res_one rfl rfl ha) (fun a w ha => ⟨A1, c1, rfl, ha.grown (by repeat (first | exact List.Sublist.refl _ | exact List.nil_sublist _ | refine List.Sublist.cons_cons _ ?_ | refine List.Sublist.cons _ ?_))⟩)

theorem push_c {C : Ctx} {fr : List (Nat × Value)} {T : List Res} {a : Act} {w : World} (hC : C.P = Tryd.prog) {bq bm : Nat} {A : Option Addr} {c : Nat} {todo : List Wk} {met : List Tm} {k : Wk} (hlen : todo.length ≤ 400000) (hmet : ∀ u ∈ met, Tm.ok u) (hk : Tm.ok k.team) (ha : At C fr (.blk bq (.cells [.slice A todo.length c, .map (some bm)].toArray 139 (0, 0)) :: .blk bm (metObj met) :: .que 142 4 A todo.length c (todo.flatMap Wk.cells) :: T) a w) : Calls C.P 112 #[.pointer (some ⟨bq, 0, none⟩), .agg [.int .u8 (k.team.1 : Int), .int .u8 (k.team.2.1 : Int), .int .u8 (k.team.2.2 : Int)].toArray, .agg [.slice k.A k.how.length k.c, .int .u8 (k.team.1 : Int), .int .u8 (k.team.2.1 : Int), .int .u8 (k.team.2.2 : Int)].toArray] w fun e w' => ∃ A' c', e = .returned (.tuple #[]) ∧ At C fr (.blk bq (.cells [.slice A' (pushT todo met k).length c', .map (some bm)].toArray 139 (0, 0)) :: .blk bm (metObj (pushM met k.team)) :: .que 142 4 A' (pushT todo met k).length c' ((pushT todo met k).flatMap Wk.cells) :: T) a w' := by
  obtain ⟨P, B, w0, N0, ds⟩ := C
  obtain rfl : P = Tryd.prog := hC
  refine enter_in (N := 28) [(0, .pointer (some ⟨bq, 0, none⟩)), (1, .agg [.int .u8 (k.team.1 : Int), .int .u8 (k.team.2.1 : Int), .int .u8 (k.team.2.2 : Int)].toArray), (2, .agg [.slice k.A k.how.length k.c, .int .u8 (k.team.1 : Int), .int .u8 (k.team.2.1 : Int), .int .u8 (k.team.2.2 : Int)].toArray)] ha Tryd.func112 rfl Tryd.ntmps112 rfl rfl ?_
  refine cod_seq ?_
  refine cod_region ?_
  refine lst_box rfl rfl ?_
  intro b4
  refine lst_box rfl rfl ?_
  intro b5
  refine lst_nil ?_
  refine ex_then ?_
  refine cod_seq ?_
  refine any_begin [] F.follows 7 rfl [false, false, false, false, false, false, false] rfl ?_
  refine any_take (listed' := [true, false, false, false, false, false, false].toArray) 0 rfl rfl rfl (by kernel_rfl) (by kernel_rfl) (by kernel_rfl) (by repeat (first | exact List.Sublist.refl _ | exact List.nil_sublist _ | refine List.Sublist.cons_cons _ ?_ | refine List.Sublist.cons _ ?_)) (yld_move rfl) rfl ?_
  refine any_take (listed' := [true, true, false, false, false, false, false].toArray) 1 rfl rfl rfl (by kernel_rfl) (by kernel_rfl) (by kernel_rfl) (by repeat (first | exact List.Sublist.refl _ | exact List.nil_sublist _ | refine List.Sublist.cons_cons _ ?_ | refine List.Sublist.cons _ ?_)) (yld_nilCheck rfl) rfl ?_
  refine any_take (listed' := [true, true, true, false, false, false, false].toArray) 2 rfl rfl rfl (by kernel_rfl) (by kernel_rfl) (by kernel_rfl) (by repeat (first | exact List.Sublist.refl _ | exact List.nil_sublist _ | refine List.Sublist.cons_cons _ ?_ | refine List.Sublist.cons _ ?_)) (yld_field_z rfl F.fi139_1 F.ti136) rfl ?_
  refine any_take (listed' := [true, true, true, true, false, false, false].toArray) 3 rfl rfl rfl (by kernel_rfl) (by kernel_rfl) (by kernel_rfl) (by repeat (first | exact List.Sublist.refl _ | exact List.nil_sublist _ | refine List.Sublist.cons_cons _ ?_ | refine List.Sublist.cons _ ?_)) (yld_load rfl F.one136) rfl ?_
  refine any_take (listed' := [true, true, true, true, true, false, false].toArray) 4 rfl rfl rfl (by kernel_rfl) (by kernel_rfl) (by kernel_rfl) (by repeat (first | exact List.Sublist.refl _ | exact List.nil_sublist _ | refine List.Sublist.cons_cons _ ?_ | refine List.Sublist.cons _ ?_)) (yld_loadN rfl F.agg79 F.ti79) rfl ?_
  refine any_take (listed' := [true, true, true, true, true, true, false].toArray) 5 rfl rfl rfl (by kernel_rfl) (by kernel_rfl) (by kernel_rfl) (by repeat (first | exact List.Sublist.refl _ | exact List.nil_sublist _ | refine List.Sublist.cons_cons _ ?_ | refine List.Sublist.cons _ ?_)) (yld_lookup_team rfl (t := k.team) rfl rfl (by simp) hmet hk) rfl ?_
  refine any_take (listed' := [true, true, true, true, true, true, true].toArray) 6 rfl rfl rfl (by kernel_rfl) (by kernel_rfl) (by kernel_rfl) (by repeat (first | exact List.Sublist.refl _ | exact List.nil_sublist _ | refine List.Sublist.cons_cons _ ?_ | refine List.Sublist.cons _ ?_)) (yld_not rfl) rfl ?_
  refine any_done rfl (by kernel_rfl) ?_
  refine ex_then ?_
  refine cod_cond_bool rfl (fun hc0 => ?_) (fun hc0 => ?_)
  · skip
    have hm : k.team ∉ met := by simpa using hc0
    have e1 : pushT todo met k = todo ++ [k] := if_neg hm
    have e2 : pushM met k.team = met ++ [k.team] := if_neg hm
    rw [e1, e2]
    refine cod_seq ?_
    refine any_begin [.b bm] F.follows 6 rfl [false, false, false, false, false, false] rfl ?_
    refine any_take (listed' := [true, false, false, false, false, false].toArray) 0 rfl rfl rfl (by kernel_rfl) (by kernel_rfl) (by kernel_rfl) (by repeat (first | exact List.Sublist.refl _ | exact List.nil_sublist _ | refine List.Sublist.cons_cons _ ?_ | refine List.Sublist.cons _ ?_)) (yld_move rfl) rfl ?_
    refine any_take (listed' := [true, true, false, false, false, false].toArray) 1 rfl rfl rfl (by kernel_rfl) (by kernel_rfl) (by kernel_rfl) (by repeat (first | exact List.Sublist.refl _ | exact List.nil_sublist _ | refine List.Sublist.cons_cons _ ?_ | refine List.Sublist.cons _ ?_)) (yld_nilCheck rfl) rfl ?_
    refine any_take (listed' := [true, true, true, false, false, false].toArray) 2 rfl rfl rfl (by kernel_rfl) (by kernel_rfl) (by kernel_rfl) (by repeat (first | exact List.Sublist.refl _ | exact List.nil_sublist _ | refine List.Sublist.cons_cons _ ?_ | refine List.Sublist.cons _ ?_)) (yld_field_z rfl F.fi139_1 F.ti136) rfl ?_
    refine any_take (listed' := [true, true, true, true, false, false].toArray) 3 rfl rfl rfl (by kernel_rfl) (by kernel_rfl) (by kernel_rfl) (by repeat (first | exact List.Sublist.refl _ | exact List.nil_sublist _ | refine List.Sublist.cons_cons _ ?_ | refine List.Sublist.cons _ ?_)) (yld_load rfl F.one136) rfl ?_
    refine any_take (listed' := [true, true, true, true, true, false].toArray) 4 rfl rfl rfl (by kernel_rfl) (by kernel_rfl) (by kernel_rfl) (by repeat (first | exact List.Sublist.refl _ | exact List.nil_sublist _ | refine List.Sublist.cons_cons _ ?_ | refine List.Sublist.cons _ ?_)) (yld_loadN rfl F.agg79 F.ti79) rfl ?_
    refine any_one (listed' := [true, true, true, true, true, true].toArray) 5 (by kernel_rfl) rfl rfl ?_
    refine lst_update_team rfl (t := k.team) rfl rfl hmet hk hm UpB.upd ?_
    refine lst_nil ?_
    refine any_next (by repeat (first | exact List.Sublist.refl _ | exact List.nil_sublist _ | refine List.Sublist.cons_cons _ ?_ | refine List.Sublist.cons _ ?_)) ?_
    refine any_done rfl (by kernel_rfl) ?_
    refine ex_then ?_
    refine any_begin [.b bq, .q A] F.follows 11 rfl [false, false, false, false, false, false, false, false, false, false, false] rfl ?_
    refine any_take (listed' := [true, false, false, false, false, false, false, false, false, false, false].toArray) 0 rfl rfl rfl (by kernel_rfl) (by kernel_rfl) (by kernel_rfl) (by repeat (first | exact List.Sublist.refl _ | exact List.nil_sublist _ | refine List.Sublist.cons_cons _ ?_ | refine List.Sublist.cons _ ?_)) (yld_move rfl) rfl ?_
    refine any_take (listed' := [true, true, false, false, false, false, false, false, false, false, false].toArray) 1 rfl rfl rfl (by kernel_rfl) (by kernel_rfl) (by kernel_rfl) (by repeat (first | exact List.Sublist.refl _ | exact List.nil_sublist _ | refine List.Sublist.cons_cons _ ?_ | refine List.Sublist.cons _ ?_)) (yld_move rfl) rfl ?_
    refine any_take (listed' := [true, true, true, false, false, false, false, false, false, false, false].toArray) 2 rfl rfl rfl (by kernel_rfl) (by kernel_rfl) (by kernel_rfl) (by repeat (first | exact List.Sublist.refl _ | exact List.nil_sublist _ | refine List.Sublist.cons_cons _ ?_ | refine List.Sublist.cons _ ?_)) (yld_nilCheck rfl) rfl ?_
    refine any_take (listed' := [true, true, true, true, false, false, false, false, false, false, false].toArray) 3 rfl rfl rfl (by kernel_rfl) (by kernel_rfl) (by kernel_rfl) (by repeat (first | exact List.Sublist.refl _ | exact List.nil_sublist _ | refine List.Sublist.cons_cons _ ?_ | refine List.Sublist.cons _ ?_)) (yld_field_z rfl F.fi139_0 F.ti137) rfl ?_
    refine any_take (listed' := [true, true, true, true, false, true, false, false, false, false, false].toArray) 5 rfl rfl rfl (by kernel_rfl) (by kernel_rfl) (by kernel_rfl) (by repeat (first | exact List.Sublist.refl _ | exact List.nil_sublist _ | refine List.Sublist.cons_cons _ ?_ | refine List.Sublist.cons _ ?_)) (yld_loadN rfl F.agg142 F.ti142) rfl ?_
    refine any_two (l1 := [true, true, true, true, true, true, false, false, false, false, false].toArray) (l2 := [true, true, true, true, false, true, true, false, false, false, false].toArray) 4 6 (by kernel_rfl) rfl rfl rfl rfl ?_ ?_
    · skip
      refine lst_load rfl rfl F.one137 ?_
      refine lst_nil ?_
      refine any_next (by repeat (first | exact List.Sublist.refl _ | exact List.nil_sublist _ | refine List.Sublist.cons_cons _ ?_ | refine List.Sublist.cons _ ?_)) ?_
      refine any_one (listed' := [true, true, true, true, true, true, true, false, false, false, false].toArray) 6 (by kernel_rfl) rfl rfl ?_
      refine lst_litN (vs := [(0, _)]) [_, _, _, _] rfl rfl Tryd.underlying137 F.ti142 rfl rfl rfl ⟨rfl, [_, _, _, _], [], rfl, rfl, rfl, rfl⟩ ?_
      intro b24
      refine lst_nil ?_
      refine any_next (by repeat (first | exact List.Sublist.refl _ | exact List.nil_sublist _ | refine List.Sublist.cons_cons _ ?_ | refine List.Sublist.cons _ ?_)) ?_
      refine any_one (listed' := [true, true, true, true, true, true, true, true, false, false, false].toArray) 7 (by kernel_rfl) rfl rfl ?_
      refine lst_append_que rfl rfl rfl Tryd.underlying137 F.ti142 rfl rfl rfl (by unfold maxLen; omega) (by omega) ?_
      intro A1 c1
      refine lst_nil ?_
      refine any_next (by repeat (first | exact List.Sublist.refl _ | exact List.nil_sublist _ | refine List.Sublist.cons_cons _ ?_ | refine List.Sublist.cons _ ?_)) ?_
      refine any_take (listed' := [true, true, true, true, true, true, true, true, true, false, false].toArray) 8 rfl rfl rfl (by kernel_rfl) (by kernel_rfl) (by kernel_rfl) (by repeat (first | exact List.Sublist.refl _ | exact List.nil_sublist _ | refine List.Sublist.cons_cons _ ?_ | refine List.Sublist.cons _ ?_)) (yld_nilCheck rfl) rfl ?_
      refine any_take (listed' := [true, true, true, true, true, true, true, true, true, true, false].toArray) 9 rfl rfl rfl (by kernel_rfl) (by kernel_rfl) (by kernel_rfl) (by repeat (first | exact List.Sublist.refl _ | exact List.nil_sublist _ | refine List.Sublist.cons_cons _ ?_ | refine List.Sublist.cons _ ?_)) (yld_field_z rfl F.fi139_0 F.ti137) rfl ?_
      refine any_one (listed' := [true, true, true, true, true, true, true, true, true, true, true].toArray) 10 (by kernel_rfl) rfl rfl ?_
      refine lst_store rfl rfl F.ti137 rfl ?_
      refine lst_nil ?_
      refine any_next (by repeat (first | exact List.Sublist.refl _ | exact List.nil_sublist _ | refine List.Sublist.cons_cons _ ?_ | refine List.Sublist.cons _ ?_)) ?_
      refine any_done rfl (by kernel_rfl) ?_
      rw [List.length_append, List.length_singleton, List.flatMap_append, List.flatMap_singleton]
      exact ex_end rfl (fun a w ha => res_none rfl ha) (fun _ _ ha' => ⟨A1, c1, rfl, ha.back (ha'.pck (by repeat (first | exact Pck.nil _ | exact Pck.refl _ | (apply Pck.cons; focus (repeat (first | exact Rem.here _ | apply Rem.there))) | refine Pck.skip _ ?_)))⟩)
    · skip
      refine lst_litN (vs := [(0, _)]) [_, _, _, _] rfl rfl Tryd.underlying137 F.ti142 rfl rfl rfl ⟨rfl, [_, _, _, _], [], rfl, rfl, rfl, rfl⟩ ?_
      intro b24
      refine lst_nil ?_
      refine any_next (by repeat (first | exact List.Sublist.refl _ | exact List.nil_sublist _ | refine List.Sublist.cons_cons _ ?_ | refine List.Sublist.cons _ ?_)) ?_
      refine any_one (listed' := [true, true, true, true, true, true, true, false, false, false, false].toArray) 4 (by kernel_rfl) rfl rfl ?_
      refine lst_load rfl rfl F.one137 ?_
      refine lst_nil ?_
      refine any_next (by repeat (first | exact List.Sublist.refl _ | exact List.nil_sublist _ | refine List.Sublist.cons_cons _ ?_ | refine List.Sublist.cons _ ?_)) ?_
      refine any_one (listed' := [true, true, true, true, true, true, true, true, false, false, false].toArray) 7 (by kernel_rfl) rfl rfl ?_
      refine lst_append_que rfl rfl rfl Tryd.underlying137 F.ti142 rfl rfl rfl (by unfold maxLen; omega) (by omega) ?_
      intro A1 c1
      refine lst_nil ?_
      refine any_next (by repeat (first | exact List.Sublist.refl _ | exact List.nil_sublist _ | refine List.Sublist.cons_cons _ ?_ | refine List.Sublist.cons _ ?_)) ?_
      refine any_take (listed' := [true, true, true, true, true, true, true, true, true, false, false].toArray) 8 rfl rfl rfl (by kernel_rfl) (by kernel_rfl) (by kernel_rfl) (by repeat (first | exact List.Sublist.refl _ | exact List.nil_sublist _ | refine List.Sublist.cons_cons _ ?_ | refine List.Sublist.cons _ ?_)) (yld_nilCheck rfl) rfl ?_
      refine any_take (listed' := [true, true, true, true, true, true, true, true, true, true, false].toArray) 9 rfl rfl rfl (by kernel_rfl) (by kernel_rfl) (by kernel_rfl) (by repeat (first | exact List.Sublist.refl _ | exact List.nil_sublist _ | refine List.Sublist.cons_cons _ ?_ | refine List.Sublist.cons _ ?_)) (yld_field_z rfl F.fi139_0 F.ti137) rfl ?_
      refine any_one (listed' := [true, true, true, true, true, true, true, true, true, true, true].toArray) 10 (by kernel_rfl) rfl rfl ?_
      refine lst_store rfl rfl F.ti137 rfl ?_
      refine lst_nil ?_
      refine any_next (by repeat (first | exact List.Sublist.refl _ | exact List.nil_sublist _ | refine List.Sublist.cons_cons _ ?_ | refine List.Sublist.cons _ ?_)) ?_
      refine any_done rfl (by kernel_rfl) ?_
      rw [List.length_append, List.length_singleton, List.flatMap_append, List.flatMap_singleton]
      exact ex_end rfl (fun a w ha => res_none rfl ha) (fun _ _ ha' => ⟨A1, c1, rfl, ha.back (ha'.pck (by repeat (first | exact Pck.nil _ | exact Pck.refl _ | (apply Pck.cons; focus (repeat (first | exact Rem.here _ | apply Rem.there))) | refine Pck.skip _ ?_)))⟩)
  · skip
    have hm : k.team ∈ met := by simpa using hc0
    have e1 : pushT todo met k = todo := if_pos hm
    have e2 : pushM met k.team = met := if_pos hm
    rw [e1, e2]
    refine cod_skip ?_
    exact ex_end rfl (fun a w ha => res_none rfl ha) (fun _ _ ha' => ⟨A, c, rfl, ha.back (ha'.pck (by repeat (first | exact Pck.nil _ | exact Pck.refl _ | (apply Pck.cons; focus (repeat (first | exact Rem.here _ | apply Rem.there))) | refine Pck.skip _ ?_)))⟩)

theorem pop_none {C : Ctx} {fr : List (Nat × Value)} {T : List Res} {a : Act} {w : World} (hC : C.P = Tryd.prog) {bq bm : Nat} {A : Option Addr} {c : Nat} {met : List Tm} (ha : At C fr (.blk bq (.cells [.slice A 0 c, .map (some bm)].toArray 139 (0, 0)) :: .blk bm (metObj met) :: .que 142 4 A 0 c ([]) :: T) a w) : Calls C.P 113 #[.pointer (some ⟨bq, 0, none⟩)] w fun e w' => e = .returned (.tuple #[.agg [.slice none 0 0, .int .u8 0, .int .u8 0, .int .u8 0].toArray, .bool false]) ∧ At C fr T a w' := by
  obtain ⟨P, B, w0, N0, ds⟩ := C
  obtain rfl : P = Tryd.prog := hC
  refine enter_in (N := 32) [(0, .pointer (some ⟨bq, 0, none⟩))] ha Tryd.func113 rfl Tryd.ntmps113 rfl rfl ?_
  refine cod_seq ?_
  refine cod_region ?_
  refine lst_alloc rfl F.ti142 ?_
  intro b2
  refine lst_assign rfl rfl ?_
  refine lst_nil ?_
  refine ex_then ?_
  refine cod_seq ?_
  refine cod_seq ?_
  refine cod_region ?_
  refine lst_move rfl rfl ?_
  refine lst_nilCheck rfl rfl ?_
  refine lst_field_z rfl rfl F.fi139_0 F.ti137 ?_
  refine lst_load rfl rfl F.one137 ?_
  refine lst_len rfl rfl Tryd.underlying137 ?_
  refine lst_int rfl rfl rfl bin_eql ?_
  refine lst_nil ?_
  refine ex_then ?_
  refine cod_cond_dec rfl (fun hc0 => ?_) (fun hc0 => ?_)
  · skip
    refine cod_seq ?_
    refine cod_region ?_
    refine lst_move rfl rfl ?_
    refine lst_nilCheck rfl rfl ?_
    refine lst_field_z rfl rfl F.fi139_1 F.ti136 ?_
    refine lst_load rfl rfl F.one136 ?_
    refine lst_clear_map rfl Tryd.underlying136 (UpB.upd (b := bm)) ?_
    refine lst_nil ?_
    refine ex_then ?_
    refine cod_seq ?_
    refine cod_region ?_
    refine lst_alloc rfl F.ti142 ?_
    intro b4
    refine lst_nil ?_
    refine ex_then ?_
    refine cod_seq ?_
    refine cod_region ?_
    refine lst_loadN rfl rfl F.agg142 F.ti142 ?_
    refine lst_store rfl rfl F.ti142 rfl ?_
    refine lst_assign rfl rfl ?_
    refine lst_nil ?_
    refine ex_then ?_
    refine cod_ret ?_
    refine ex_then_ret ?_
    exact ex_ret rfl (fun a w ha => by exact res_cellN_tmp (ha := ha) rfl rfl rfl F.agg142 F.ti142 rfl) (fun _ _ ha' => ⟨rfl, ha.back (ha'.drop_res (by repeat (first | exact List.Sublist.refl _ | exact List.nil_sublist _ | refine List.Sublist.cons_cons _ ?_ | refine List.Sublist.cons _ ?_)))⟩)
  · skip
    exact (hc0 rfl).elim -- done

theorem pop_some {C : Ctx} {fr : List (Nat × Value)} {T : List Res} {a : Act} {w : World} (hC : C.P = Tryd.prog) {bq bm : Nat} {A : Option Addr} {c : Nat} {met : List Tm} {todo : List Wk} {k : Wk} (ha : At C fr (.blk bq (.cells [.slice A (todo.length + 1) c, .map (some bm)].toArray 139 (0, 0)) :: .blk bm (metObj met) :: .que 142 4 A (todo.length + 1) c ((k :: todo).flatMap Wk.cells) :: T) a w) : Calls C.P 113 #[.pointer (some ⟨bq, 0, none⟩)] w fun e w' => ∃ A' c', e = .returned (.tuple #[.agg [.slice k.A k.how.length k.c, .int .u8 (k.team.1 : Int), .int .u8 (k.team.2.1 : Int), .int .u8 (k.team.2.2 : Int)].toArray, .bool true]) ∧ At C fr (.blk bq (.cells [.slice A' todo.length c', .map (some bm)].toArray 139 (0, 0)) :: .blk bm (metObj met) :: .que 142 4 A' todo.length c' (todo.flatMap Wk.cells) :: T) a w' := by
  obtain ⟨g, o, rfl⟩ := que_some ha (InQ.mem (A := A)) (Nat.succ_pos _)
  obtain ⟨P, B, w0, N0, ds⟩ := C
  obtain rfl : P = Tryd.prog := hC
  refine enter_in (N := 32) [(0, .pointer (some ⟨bq, 0, none⟩))] ha Tryd.func113 rfl Tryd.ntmps113 rfl rfl ?_
  refine cod_seq ?_
  refine cod_region ?_
  refine lst_alloc rfl F.ti142 ?_
  intro b2
  refine lst_assign rfl rfl ?_
  refine lst_nil ?_
  refine ex_then ?_
  refine cod_seq ?_
  refine cod_seq ?_
  refine cod_region ?_
  refine lst_move rfl rfl ?_
  refine lst_nilCheck rfl rfl ?_
  refine lst_field_z rfl rfl F.fi139_0 F.ti137 ?_
  refine lst_load rfl rfl F.one137 ?_
  refine lst_len rfl rfl Tryd.underlying137 ?_
  refine lst_int rfl rfl rfl bin_eql ?_
  refine lst_nil ?_
  refine ex_then ?_
  refine cod_cond_dec rfl (fun hc0 => ?_) (fun hc0 => ?_)
  · skip
    exact absurd hc0 (by omega) -- done
  · skip
    refine cod_skip ?_
    refine ex_then ?_
    refine cod_seq ?_
    refine cod_region ?_
    refine lst_move rfl rfl ?_
    refine lst_nilCheck rfl rfl ?_
    refine lst_field_z rfl rfl F.fi139_0 F.ti137 ?_
    refine lst_load rfl rfl F.one137 ?_
    refine lst_index (j := 0) rfl rfl rfl Tryd.underlying137 F.ti142 rfl (by omega) ?_
    refine lst_loadN_at (l := [.slice k.A k.how.length k.c, .int .u8 (k.team.1 : Int), .int .u8 (k.team.2.1 : Int), .int .u8 (k.team.2.2 : Int)]) rfl rfl F.agg142 F.ti142 rfl (fun a w ha j u hu => que_at ha (k := 0) (l := k :: todo) (cells := Wk.cells) (InQ.mem (A := some ⟨g, o, none⟩)) Wk.cells_len rfl hu) ?_
    refine lst_alloc rfl F.ti142 ?_
    intro b5
    refine lst_store rfl rfl F.ti142 rfl ?_
    refine lst_nil ?_
    refine ex_then ?_
    refine cod_seq ?_
    refine cod_region ?_
    refine lst_move rfl rfl ?_
    refine lst_move rfl rfl ?_
    refine lst_nilCheck rfl rfl ?_
    refine lst_field_z rfl rfl F.fi139_0 F.ti137 ?_
    refine lst_load rfl rfl F.one137 ?_
    refine lst_slice1 rfl rfl rfl Tryd.underlying137 F.ti142 ?_
    intro A1
    refine lst_nilCheck rfl rfl ?_
    refine lst_field_z rfl rfl F.fi139_0 F.ti137 ?_
    refine lst_store rfl rfl F.ti137 rfl ?_
    refine lst_nil ?_
    refine ex_then ?_
    refine cod_seq ?_
    refine cod_region ?_
    refine lst_loadN rfl rfl F.agg142 F.ti142 ?_
    refine lst_store rfl rfl F.ti142 rfl ?_
    refine lst_assign rfl rfl ?_
    refine lst_nil ?_
    refine ex_then ?_
    refine cod_ret ?_
    exact ex_ret rfl (fun a w ha => by exact res_cellN_tmp (ha := ha) rfl rfl rfl F.agg142 F.ti142 rfl) (fun _ _ ha' => ⟨A1, c - 1, rfl, ha.back (ha'.pck (by repeat (first | exact Pck.nil _ | exact Pck.refl _ | (apply Pck.cons; focus (repeat (first | exact Rem.here _ | apply Rem.there))) | refine Pck.skip _ ?_)))⟩)

end Go.Proofs.YtofkhehcnfiopaaDoor.N
namespace Go.Proofs.YtofkhehcnfiopaaDoor.N
/-- The code of a word over n letters: the shorter words first, those of one length in lexicographic order. -/
def code (n : Nat) (w : List Nat) : Nat := w.foldl (fun c i => c * n + i + 1) 0
theorem code_nil (n : Nat) : code n [] = 0 := rfl
theorem code_snoc (n : Nat) (w : List Nat) (i : Nat) : code n (w ++ [i]) = code n w * n + i + 1 := by
  simp [code, List.foldl_append]
/-- All letters are below n. -/
def Wd (n : Nat) (w : List Nat) : Prop := ∀ i ∈ w, i < n
theorem Wd.snoc {n : Nat} {w : List Nat} {i : Nat} : Wd n (w ++ [i]) ↔ Wd n w ∧ i < n := by
  unfold Wd
  constructor
  · intro h
    exact ⟨fun j hj => h j (by simp [hj]), h i (by simp)⟩
  · rintro ⟨h, hi⟩ j hj
    rcases List.mem_append.1 hj with hj | hj
    · exact h j hj
    · simp at hj; omega
theorem snoc_cases (w : List Nat) : w = [] ∨ ∃ u i, w = u ++ [i] := by
  rcases List.eq_nil_or_concat w with h | ⟨u, i, h⟩
  · exact .inl h
  · exact .inr ⟨u, i, by simpa using h⟩
theorem code_snoc_lt {n a b i j : Nat} (h : a < b) (hj : j < n) : a * n + j + 1 < b * n + i + 1 := by
  have h1 : (a + 1) * n ≤ b * n := Nat.mul_le_mul_right n h
  rw [Nat.succ_mul] at h1
  omega
theorem code_lt_of_len (n : Nat) : ∀ (k : Nat) (u w : List Nat), u.length = k → w.length < k → Wd n w → code n w < code n u := by
  intro k
  induction k with
  | zero => intro u w _ h; omega
  | succ k ih =>
    intro u w hu hw hwd
    rcases snoc_cases u with rfl | ⟨u', i, rfl⟩
    · simp at hu
    rcases snoc_cases w with rfl | ⟨w', j, rfl⟩
    · rw [code_nil, code_snoc]; omega
    · rw [code_snoc, code_snoc]
      rw [Wd.snoc] at hwd
      simp at hu hw
      exact code_snoc_lt (ih u' w' hu (by omega) hwd.1) hwd.2
theorem len_le_of_code {n : Nat} {u w : List Nat} (hu : Wd n u) (h : code n w ≤ code n u) : w.length ≤ u.length := by
  rcases Nat.lt_or_ge u.length w.length with hl | hl
  · have := code_lt_of_len n _ w u rfl hl hu
    omega
  · exact hl
theorem digit_inj {n a b i j : Nat} (hi : i < n) (hj : j < n) (h : a * n + i + 1 = b * n + j + 1) : a = b ∧ i = j := by
  rcases Nat.lt_trichotomy a b with hab | hab | hab
  · have := code_snoc_lt (n := n) (i := j) hab hi; omega
  · subst hab; exact ⟨rfl, by omega⟩
  · have := code_snoc_lt (n := n) (i := i) hab hj; omega
theorem code_inj (n : Nat) : ∀ (k : Nat) (u w : List Nat), u.length = k → Wd n u → Wd n w → code n u = code n w → u = w := by
  intro k
  induction k with
  | zero =>
    intro u w hu hwu hww h
    have hu' : u = [] := List.length_eq_zero_iff.1 hu
    subst hu'
    rcases snoc_cases w with rfl | ⟨w', j, rfl⟩
    · rfl
    · rw [code_nil, code_snoc] at h; omega
  | succ k ih =>
    intro u w hu hwu hww h
    rcases snoc_cases u with rfl | ⟨u', i, rfl⟩
    · simp at hu
    rcases snoc_cases w with rfl | ⟨w', j, rfl⟩
    · rw [code_nil, code_snoc] at h; omega
    · rw [code_snoc, code_snoc] at h
      rw [Wd.snoc] at hwu hww
      simp at hu
      obtain ⟨h1, h2⟩ := digit_inj hwu.2 hww.2 h
      rw [ih u' w' hu hwu.1 hww.1 h1, h2]
theorem code_mono_snoc {n : Nat} {u w : List Nat} {i : Nat} (h : code n w ≤ code n u) : code n (w ++ [i]) ≤ code n (u ++ [i]) := by
  rw [code_snoc, code_snoc]
  have := Nat.mul_le_mul_right n h
  omega

section
variable {S : Type} (step : S → Nat → Option S)
/-- Where a word leads from a state. -/
def run : S → List Nat → Option S
  | s, [] => some s
  | s, i :: w => (step s i).bind fun t => run t w
theorem run_append (s : S) (u v : List Nat) : run step s (u ++ v) = (run step s u).bind fun t => run step t v := by
  induction u generalizing s with
  | nil => rfl
  | cons i u ih =>
    show (step s i).bind _ = ((step s i).bind _).bind _
    cases step s i with
    | none => rfl
    | some t => exact ih t
theorem run_snoc (s : S) (u : List Nat) (i : Nat) : run step s (u ++ [i]) = (run step s u).bind fun t => step t i := by
  rw [run_append]
  cases run step s u with
  | none => rfl
  | some t =>
    show (step t i).bind _ = step t i
    cases step t i <;> rfl
theorem run_wd {n : Nat} (hn : ∀ s i, n ≤ i → step s i = none) : ∀ (w : List Nat) (s t : S), run step s w = some t → Wd n w := by
  intro w
  induction w with
  | nil => intro s t _ i hi; simp at hi
  | cons i w ih =>
    intro s t h j hj
    have h' : ((step s i).bind fun t => run step t w) = some t := h
    cases hs : step s i with
    | none => rw [hs] at h'; cases h'
    | some s' =>
      rw [hs] at h'
      rcases List.mem_cons.1 hj with rfl | hj
      · rcases Nat.lt_or_ge j n with h2 | h2
        · exact h2
        · rw [hn s j h2] at hs; cases hs
      · exact ih s' t h' j hj

/-- Words that are not too long. -/
def Fits (most : Int) (w : List Nat) : Prop := most < 0 ∨ (w.length : Int) ≤ most
theorem Fits.init {most : Int} {u : List Nat} {i : Nat} (h : Fits most (u ++ [i])) : Fits most u ∧ (u.length : Int) ≠ most := by
  unfold Fits at *
  simp at h
  omega

/-- The first word, the shorter ones first, that leads to a goal. -/
def IsFirst (n : Nat) (most : Int) (s₀ : S) (goal : S → Bool) (w : List Nat) : Prop :=
  (∃ s, run step s₀ w = some s ∧ goal s = true) ∧ Fits most w ∧ ∀ v t, run step s₀ v = some t → goal t = true → Fits most v → code n w ≤ code n v
def NoWord (most : Int) (s₀ : S) (goal : S → Bool) : Prop := ∀ v t, run step s₀ v = some t → Fits most v → goal t = false

theorem IsFirst.unique {n : Nat} {most : Int} {s₀ : S} {goal : S → Bool} {w v : List Nat} (hn : ∀ s i, n ≤ i → step s i = none)
    (hw : IsFirst step n most s₀ goal w) (hv : IsFirst step n most s₀ goal v) : w = v := by
  obtain ⟨⟨s, hs, hg⟩, hf, hm⟩ := hw
  obtain ⟨⟨t, ht, hg'⟩, hf', hm'⟩ := hv
  have h1 := hm v t ht hg' hf'
  have h2 := hm' w s hs hg hf
  exact code_inj n _ w v rfl (run_wd step hn w _ _ hs) (run_wd step hn v _ _ ht) (by omega)
theorem IsFirst.not_none {n : Nat} {most : Int} {s₀ : S} {goal : S → Bool} {w : List Nat} (hw : IsFirst step n most s₀ goal w) (hv : NoWord step most s₀ goal) : False := by
  obtain ⟨⟨s, hs, hg⟩, hf, _⟩ := hw
  rw [hv w s hs hf] at hg
  cases hg

/-- What is met: words and states; those before k are done; of the one at k the letters below i are done. -/
structure BIn (n : Nat) (most : Int) (s₀ : S) (goal : S → Bool) (full : List (List Nat × S)) (k i : Nat) : Prop where
  sorted : ∀ (a b : Nat) (e f : List Nat × S), a < b → full[a]? = some e → full[b]? = some f → code n e.1 < code n f.1
  leads : ∀ e : List Nat × S, e ∈ full → run step s₀ e.1 = some e.2
  fits : ∀ e : List Nat × S, e ∈ full → Fits most e.1
  first : full[0]? = some ([], s₀)
  closed : ∀ (j : Nat) (e : List Nat × S), j < k → full[j]? = some e → goal e.2 = false ∧ ((e.1.length : Int) ≠ most → ∀ l t, step e.2 l = some t → ∃ f, f ∈ full ∧ f.2 = t ∧ code n f.1 ≤ code n (e.1 ++ [l]))
  now : ∀ e : List Nat × S, full[k]? = some e → ∀ l t, l < i → step e.2 l = some t → ∃ f, f ∈ full ∧ f.2 = t ∧ code n f.1 ≤ code n (e.1 ++ [l])
  parents : ∀ f : List Nat × S, f ∈ full → f.1 = [] ∨ ∃ j l e, full[j]? = some e ∧ (j < k ∨ j = k ∧ l < i) ∧ l < n ∧ f.1 = e.1 ++ [l]
  nodup : (full.map (·.2)).Nodup

variable {step}
variable {n : Nat} {most : Int} {s₀ : S} {goal : S → Bool} {full : List (List Nat × S)} {k i : Nat}

theorem BIn.start : BIn step n most s₀ goal [([], s₀)] 0 0 := by
  constructor
  · intro a b e f hab h1 h2
    have : b = 0 := by
      rcases Nat.eq_zero_or_pos b with h | h
      · exact h
      · rw [List.getElem?_eq_none (by simp; omega)] at h2; cases h2
    omega
  · intro e he; simp at he; subst he; rfl
  · intro e he; simp at he; subst he; unfold Fits; simp; omega
  · rfl
  · intro j e hj; omega
  · intro e _ l t hl; omega
  · intro f hf; simp at hf; subst hf; exact .inl rfl
  · simp

/-- Whoever is met has a smaller code than the next word. -/
theorem BIn.below (h : BIn step n most s₀ goal full k i) {w : List Nat} {s : S} (hk : full[k]? = some (w, s)) {f : List Nat × S} (hf : f ∈ full) :
    code n f.1 < code n (w ++ [i]) := by
  rcases h.parents f hf with h0 | ⟨j, l, e, he, hj, hl, hfe⟩
  · rw [h0, code_nil, code_snoc]; omega
  · rw [hfe, code_snoc, code_snoc]
    rcases hj with hj | ⟨rfl, hli⟩
    · exact code_snoc_lt (h.sorted _ _ _ _ hj he hk) hl
    · rw [hk] at he
      cases he
      show code n w * n + l + 1 < code n w * n + i + 1
      omega

theorem BIn.skip_none (h : BIn step n most s₀ goal full k i) {w : List Nat} {s : S} (hk : full[k]? = some (w, s)) (hs : step s i = none) :
    BIn step n most s₀ goal full k (i + 1) := by
  refine ⟨h.sorted, h.leads, h.fits, h.first, h.closed, ?_, ?_, h.nodup⟩
  · intro e he l t hl hst
    rcases Nat.lt_or_ge l i with h1 | h1
    · exact h.now e he l t h1 hst
    · have : l = i := by omega
      subst this
      rw [hk] at he; cases he
      rw [hs] at hst; cases hst
  · intro f hf
    rcases h.parents f hf with h0 | ⟨j, l, e, he, hj, hl, hfe⟩
    · exact .inl h0
    · exact .inr ⟨j, l, e, he, by omega, hl, hfe⟩

theorem BIn.skip_met (h : BIn step n most s₀ goal full k i) {w : List Nat} {s t : S} (hk : full[k]? = some (w, s)) (hs : step s i = some t) (hm : t ∈ full.map (·.2)) :
    BIn step n most s₀ goal full k (i + 1) := by
  refine ⟨h.sorted, h.leads, h.fits, h.first, h.closed, ?_, ?_, h.nodup⟩
  · intro e he l t' hl hst
    rcases Nat.lt_or_ge l i with h1 | h1
    · exact h.now e he l t' h1 hst
    · have : l = i := by omega
      subst this
      rw [hk] at he; cases he
      rw [hs] at hst; cases hst
      obtain ⟨f, hf, hft⟩ := List.mem_map.1 hm
      exact ⟨f, hf, hft, Nat.le_of_lt (h.below hk hf)⟩
  · intro f hf
    rcases h.parents f hf with h0 | ⟨j, l, e, he, hj, hl, hfe⟩
    · exact .inl h0
    · exact .inr ⟨j, l, e, he, by omega, hl, hfe⟩

theorem getElem?_snoc_old {α : Type} {l : List α} {a : α} {j : Nat} {x : α} (h : l[j]? = some x) : (l ++ [a])[j]? = some x := by
  have hj : j < l.length := by
    rcases Nat.lt_or_ge j l.length with h1 | h1
    · exact h1
    · rw [List.getElem?_eq_none h1] at h; cases h
  rw [List.getElem?_append_left hj]; exact h
theorem getElem?_snoc_cases {α : Type} {l : List α} {a : α} {j : Nat} {x : α} (h : (l ++ [a])[j]? = some x) : l[j]? = some x ∧ j < l.length ∨ j = l.length ∧ x = a := by
  rcases Nat.lt_or_ge j l.length with h1 | h1
  · rw [List.getElem?_append_left h1] at h
    exact .inl ⟨h, h1⟩
  · rw [List.getElem?_append_right h1] at h
    rcases Nat.eq_zero_or_pos (j - l.length) with h2 | h2
    · rw [h2] at h; simp at h; exact .inr ⟨by omega, h.symm⟩
    · rw [List.getElem?_eq_none (by simp; omega)] at h; cases h

theorem BIn.push (h : BIn step n most s₀ goal full k i) {w : List Nat} {s t : S} (hk : full[k]? = some (w, s)) (hi : i < n) (hs : step s i = some t) (hm : t ∉ full.map (·.2))
    (hlen : (w.length : Int) ≠ most) : BIn step n most s₀ goal (full ++ [(w ++ [i], t)]) k (i + 1) := by
  have hkl : k < full.length := by
    rcases Nat.lt_or_ge k full.length with h1 | h1
    · exact h1
    · rw [List.getElem?_eq_none h1] at hk; cases hk
  have hmem : (w, s) ∈ full := List.mem_of_getElem? hk
  refine ⟨?_, ?_, ?_, getElem?_snoc_old h.first, ?_, ?_, ?_, ?_⟩
  · intro a b e f hab h1 h2
    rcases getElem?_snoc_cases h2 with ⟨h2, hb⟩ | ⟨hb, rfl⟩
    · rcases getElem?_snoc_cases h1 with ⟨h1, _⟩ | ⟨ha, _⟩
      · exact h.sorted a b e f hab h1 h2
      · omega
    · rcases getElem?_snoc_cases h1 with ⟨h1, _⟩ | ⟨ha, _⟩
      · exact h.below hk (List.mem_of_getElem? h1)
      · omega
  · intro e he
    rcases List.mem_append.1 he with he | he
    · exact h.leads e he
    · simp at he; subst he
      show run step s₀ (w ++ [i]) = some t
      rw [run_snoc, h.leads _ hmem]
      exact hs
  · intro e he
    rcases List.mem_append.1 he with he | he
    · exact h.fits e he
    · simp at he; subst he
      have := h.fits _ hmem
      unfold Fits at *
      simp
      simp at this
      omega
  · intro j e hj he
    rcases getElem?_snoc_cases he with ⟨he, _⟩ | ⟨hb, _⟩
    · obtain ⟨h1, h2⟩ := h.closed j e hj he
      refine ⟨h1, fun h3 l t' hst => ?_⟩
      obtain ⟨f, hf, h4, h5⟩ := h2 h3 l t' hst
      exact ⟨f, List.mem_append.2 (.inl hf), h4, h5⟩
    · omega
  · intro e he l t' hl hst
    rcases getElem?_snoc_cases he with ⟨he', _⟩ | ⟨hb, _⟩
    · clear he
      rcases Nat.lt_or_ge l i with h1 | h1
      · obtain ⟨f, hf, h4, h5⟩ := h.now e he' l t' h1 hst
        exact ⟨f, List.mem_append.2 (.inl hf), h4, h5⟩
      · have : l = i := by omega
        subst this
        rw [hk] at he'; cases he'
        rw [hs] at hst; cases hst
        exact ⟨(w ++ [l], t), by simp, rfl, Nat.le_refl _⟩
    · omega
  · intro f hf
    rcases List.mem_append.1 hf with hf | hf
    · rcases h.parents f hf with h0 | ⟨j, l, e, he, hj, hl, hfe⟩
      · exact .inl h0
      · exact .inr ⟨j, l, e, getElem?_snoc_old he, by omega, hl, hfe⟩
    · simp at hf; subst hf
      exact .inr ⟨k, i, (w, s), getElem?_snoc_old hk, by omega, hi, rfl⟩
  · rw [List.map_append, List.nodup_append]
    refine ⟨h.nodup, by simp, ?_⟩
    intro a ha b hb
    simp at hb
    subst hb
    intro hab
    subst hab
    exact hm ha

theorem BIn.next (h : BIn step n most s₀ goal full k n) (hn : ∀ s i, n ≤ i → step s i = none) {w : List Nat} {s : S} (hk : full[k]? = some (w, s)) (hg : goal s = false) :
    BIn step n most s₀ goal full (k + 1) 0 := by
  refine ⟨h.sorted, h.leads, h.fits, h.first, ?_, fun e _ l t hl => by omega, ?_, h.nodup⟩
  · intro j e hj he
    rcases Nat.lt_or_ge j k with h1 | h1
    · exact h.closed j e h1 he
    · have : j = k := by omega
      subst this
      rw [hk] at he; cases he
      refine ⟨hg, fun _ l t hst => ?_⟩
      rcases Nat.lt_or_ge l n with h2 | h2
      · exact h.now _ hk l t h2 hst
      · have hst' : step s l = some t := hst
        rw [hn s l h2] at hst'; cases hst'
  · intro f hf
    rcases h.parents f hf with h0 | ⟨j, l, e, he, hj, hl, hfe⟩
    · exact .inl h0
    · exact .inr ⟨j, l, e, he, by omega, hl, hfe⟩

theorem BIn.next_long (h : BIn step n most s₀ goal full k 0) {w : List Nat} {s : S} (hk : full[k]? = some (w, s)) (hg : goal s = false) (hl : (w.length : Int) = most) :
    BIn step n most s₀ goal full (k + 1) 0 := by
  refine ⟨h.sorted, h.leads, h.fits, h.first, ?_, fun e _ l t hl => by omega, ?_, h.nodup⟩
  · intro j e hj he
    rcases Nat.lt_or_ge j k with h1 | h1
    · exact h.closed j e h1 he
    · have : j = k := by omega
      subst this
      rw [hk] at he; cases he
      exact ⟨hg, fun h2 => absurd hl h2⟩
  · intro f hf
    rcases h.parents f hf with h0 | ⟨j, l, e, he, hj, hl, hfe⟩
    · exact .inl h0
    · exact .inr ⟨j, l, e, he, by omega, hl, hfe⟩

/-- Each word is met by one that is no later, or has not been looked at yet. -/
theorem BIn.reached (h : BIn step n most s₀ goal full k 0) (hn : ∀ s i, n ≤ i → step s i = none) :
    ∀ (m : Nat) (v : List Nat) (t : S), v.length = m → run step s₀ v = some t → Fits most v →
      (∃ f, f ∈ full ∧ f.2 = t ∧ code n f.1 ≤ code n v) ∨ (∃ j f, k ≤ j ∧ full[j]? = some f ∧ code n f.1 ≤ code n v) := by
  intro m
  induction m with
  | zero =>
    intro v t hv hr _
    have : v = [] := List.length_eq_zero_iff.1 hv
    subst this
    have h0 : t = s₀ := by
      have : some s₀ = some t := hr
      cases this; rfl
    exact .inl ⟨([], s₀), List.mem_of_getElem? h.first, h0.symm, Nat.le_refl _⟩
  | succ m ih =>
    intro v t hv hr hfit
    rcases snoc_cases v with rfl | ⟨u, i, rfl⟩
    · simp at hv
    have hwd := run_wd step hn _ _ _ hr
    rw [Wd.snoc] at hwd
    obtain ⟨hfu, hlu⟩ := hfit.init
    simp at hv
    rw [run_snoc] at hr
    cases hu : run step s₀ u with
    | none => rw [hu] at hr; cases hr
    | some t' =>
      rw [hu] at hr
      have hr' : step t' i = some t := hr
      have hle : code n u ≤ code n (u ++ [i]) := Nat.le_of_lt (code_lt_of_len n _ (u ++ [i]) u rfl (by simp) hwd.1)
      rcases ih u t' hv hu hfu with ⟨f, hf, hft, hc⟩ | ⟨j, f, hj, hf, hc⟩
      · obtain ⟨j, hjl⟩ := List.mem_iff_getElem?.1 hf
        rcases Nat.lt_or_ge j k with hjk | hjk
        · obtain ⟨_, h2⟩ := h.closed j f hjk hjl
          have hlen := len_le_of_code hwd.1 hc
          have hne : (f.1.length : Int) ≠ most := by
            unfold Fits at hfit
            simp at hfit
            omega
          obtain ⟨g, hg, hgt, hgc⟩ := h2 hne i t (by rw [hft]; exact hr')
          exact .inl ⟨g, hg, hgt, Nat.le_trans hgc (code_mono_snoc hc)⟩
        · exact .inr ⟨j, f, hjk, hjl, Nat.le_trans hc hle⟩
      · exact .inr ⟨j, f, hj, hf, Nat.le_trans hc hle⟩

theorem BIn.found (h : BIn step n most s₀ goal full k 0) (hn : ∀ s i, n ≤ i → step s i = none) {w : List Nat} {s : S} (hk : full[k]? = some (w, s)) (hg : goal s = true) :
    IsFirst step n most s₀ goal w := by
  have hmem : (w, s) ∈ full := List.mem_of_getElem? hk
  have hrun := h.leads _ hmem
  have later : ∀ j f, k ≤ j → full[j]? = some f → code n w ≤ code n f.1 := by
    intro j f hj hf
    rcases Nat.lt_or_ge k j with h1 | h1
    · exact Nat.le_of_lt (h.sorted _ _ _ _ h1 hk hf)
    · have : j = k := by omega
      subst this
      rw [hk] at hf; cases hf
      exact Nat.le_refl _
  refine ⟨⟨s, hrun, hg⟩, h.fits _ hmem, ?_⟩
  intro v t hv hgt hfv
  rcases h.reached hn _ v t rfl hv hfv with ⟨f, hf, hft, hc⟩ | ⟨j, f, hj, hf, hc⟩
  · obtain ⟨j, hjl⟩ := List.mem_iff_getElem?.1 hf
    rcases Nat.lt_or_ge j k with hjk | hjk
    · have := (h.closed j f hjk hjl).1
      rw [hft, hgt] at this; cases this
    · exact Nat.le_trans (later j f hjk hjl) hc
  · exact Nat.le_trans (later j f hj hf) hc

theorem BIn.none_ (h : BIn step n most s₀ goal full k 0) (hn : ∀ s i, n ≤ i → step s i = none) (hk : full.length ≤ k) : NoWord step most s₀ goal := by
  intro v t hv hfv
  rcases h.reached hn _ v t rfl hv hfv with ⟨f, hf, hft, hc⟩ | ⟨j, f, hj, hf, hc⟩
  · obtain ⟨j, hjl⟩ := List.mem_iff_getElem?.1 hf
    have hjlen : j < full.length := by
      rcases Nat.lt_or_ge j full.length with h1 | h1
      · exact h1
      · rw [List.getElem?_eq_none h1] at hjl; cases hjl
    rw [← hft]
    exact (h.closed j f (by omega) hjl).1
  · rw [List.getElem?_eq_none (by omega)] at hf; cases hf
end

/-- Numbers below N, none twice: there are no more than N. -/
theorem nodup_le (N : Nat) : ∀ (l : List Nat), l.Nodup → (∀ x ∈ l, x < N) → l.length ≤ N := by
  induction N with
  | zero =>
    intro l _ h
    cases l with
    | nil => simp
    | cons a l => have := h a (by simp); omega
  | succ N ih =>
    intro l hd h
    have h1 := ih (l.filter (· ≠ N)) (hd.filter _) (fun x hx => by
      rw [List.mem_filter] at hx
      have := h x hx.1
      have h3 : x ≠ N := by simpa using hx.2
      omega)
    have h2 : l.length ≤ (l.filter (· ≠ N)).length + 1 := by
      clear ih h1 h
      induction l with
      | nil => simp
      | cons a l ih =>
        rw [List.nodup_cons] at hd
        by_cases ha : a = N
        · subst ha
          have : l.filter (· ≠ a) = l := by
            rw [List.filter_eq_self]
            intro x hx
            simp only [ne_eq, decide_not, Bool.not_eq_true', decide_eq_false_iff_not]
            rintro rfl
            exact hd.1 hx
          rw [List.filter_cons_of_neg (by simp)]
          rw [this]
          simp
        · rw [List.filter_cons_of_pos (by simpa using ha)]
          have := ih hd.2
          simp only [List.length_cons]
          omega
    omega
end Go.Proofs.YtofkhehcnfiopaaDoor.N
namespace Go.Proofs.YtofkhehcnfiopaaDoor.N
open Go Go.RowKit Go.Proofs
def tget (t : Tm) : Nat → Nat
  | 0 => t.1
  | 1 => t.2.1
  | _ => t.2.2
def tput (t : Tm) (j v : Nat) : Tm :=
  match j with
  | 0 => (v, t.2.1, t.2.2)
  | 1 => (t.1, v, t.2.2)
  | _ => (t.1, t.2.1, v)
/-- The first j sets of a team, behind an agent. -/
def putT (x : Ag) (t : Tm) : Nat → Tm
  | 0 => t
  | j + 1 => tput (putT x t j) j (putN x (tget t j))
def mayT (x : Ag) (t : Tm) (n : Nat) : Bool := (List.range n).all fun j => mayN x (tget t j)
theorem mayT_succ (x : Ag) (t : Tm) (n : Nat) : mayT x t (n + 1) = (mayT x t n && mayN x (tget t n)) := by
  simp [mayT, List.range_succ]
/-- One agent's step. -/
def stepT (ags : List Ag) (used n : Nat) (t : Tm) (i : Nat) : Option Tm :=
  if i < ags.length ∧ used.testBit i = true ∧ mayT (ags.getD i default) t n = true then some (putT (ags.getD i default) t n) else none
theorem stepT_none {ags : List Ag} {used n : Nat} : ∀ (t : Tm) (i : Nat), ags.length ≤ i → stepT ags used n t i = none := by
  intro t i h
  exact if_neg (fun h' => by omega)
def Tm.lo (t : Tm) : Prop := t.1 < 64 ∧ t.2.1 < 64 ∧ t.2.2 < 64
theorem Tm.lo.ok {t : Tm} (h : Tm.lo t) : Tm.ok t := ⟨by have := h.1; omega, by have := h.2.1; omega, by have := h.2.2; omega⟩
theorem tget_lo {t : Tm} (h : Tm.lo t) (j : Nat) : tget t j < 64 := by
  rcases j with _ | _ | j
  · exact h.1
  · exact h.2.1
  · exact h.2.2
theorem tput_lo {t : Tm} (h : Tm.lo t) (j : Nat) {v : Nat} (hv : v < 64) : Tm.lo (tput t j v) := by
  rcases j with _ | _ | j
  · exact ⟨hv, h.2.1, h.2.2⟩
  · exact ⟨h.1, hv, h.2.2⟩
  · exact ⟨h.1, h.2.1, hv⟩
theorem putT_lo {x : Ag} (hx : x.ok) {t : Tm} (h : Tm.lo t) : ∀ j, Tm.lo (putT x t j)
  | 0 => h
  | j + 1 => tput_lo (putT_lo hx h j) j (putN_lt hx (tget_lo h j))
theorem tput_cells (t : Tm) {j v : Nat} (hj : j < 3) : ([.int .u8 ((tput t j v).1 : Int), .int .u8 ((tput t j v).2.1 : Int), .int .u8 ((tput t j v).2.2 : Int)] : List Value) =
    ([.int .u8 (t.1 : Int), .int .u8 (t.2.1 : Int), .int .u8 (t.2.2 : Int)] : List Value).set (0 + j * 1) (.int .u8 (v : Int)) := by
  rcases j with _ | _ | _ | j
  · rfl
  · rfl
  · rfl
  · omega
theorem tget_cell (t : Tm) {j : Nat} (hj : j < 3) : ([.int .u8 (t.1 : Int), .int .u8 (t.2.1 : Int), .int .u8 (t.2.2 : Int)] : List Value)[j]? = some (.int .u8 (tget t j : Int)) := by
  rcases j with _ | _ | _ | j
  · rfl
  · rfl
  · rfl
  · omega
theorem wk_get (k : Wk) {j : Nat} (hj : j < 3) : ([.slice k.A k.how.length k.c, .int .u8 (k.team.1 : Int), .int .u8 (k.team.2.1 : Int), .int .u8 (k.team.2.2 : Int)] : List Value)[1 + j * 1]? = some (.int .u8 (tget k.team j : Int)) := by
  rcases j with _ | _ | _ | j
  · rfl
  · rfl
  · rfl
  · omega
theorem Pck.suffix (l T : List Res) : Pck T (l ++ T) := by
  induction l with
  | nil => exact Pck.refl T
  | cons x l ih => exact Pck.skip x ih
theorem Pck.pull {k : Wk} {rws : List Wk} (h : k ∈ rws) (T : List Res) : Pck (k.res :: T) (rws.map Wk.res ++ T) := by
  induction rws with
  | nil => cases h
  | cons x l ih =>
    rcases List.mem_cons.1 h with e | e
    · subst e
      exact Pck.cons (Rem.here _) (Pck.suffix _ _)
    · exact Pck.skip _ (ih e)
theorem row_nil {C : Ctx} {fr : List (Nat × Value)} {hp : List Res} {a : Act} {w : World} (ha : At C fr hp a w) {e size n c : Nat} {A : Option Addr} {xs : List Value} (hm : Res.row e size A n c xs ∈ hp) (hA : A = none) : n = 0 := by
  rcases Nat.eq_zero_or_pos n with h | h
  · exact h
  · obtain ⟨g, hg⟩ := row_some (ha.own _ hm) h
    rw [hA] at hg; cases hg
theorem stepT_some {ags : List Ag} {used n i : Nat} {t : Tm} {x : Ag} (hi : i < ags.length) (hx : ags.getD i default = x) (hu : used.testBit i = true) (hm : mayT x t n = true) : stepT ags used n t i = some (putT x t n) := by
  unfold stepT
  rw [hx, if_pos ⟨hi, hu, hm⟩]
theorem stepT_not {ags : List Ag} {used n i j : Nat} {t : Tm} {x : Ag} (hx : ags.getD i default = x) (hj : j < n) (h : (used.testBit i && mayN x (tget t j)) = false) : stepT ags used n t i = none := by
  unfold stepT
  rw [hx]
  refine if_neg ?_
  rintro ⟨_, h1, h2⟩
  rw [h1] at h
  unfold mayT at h2
  have := List.all_eq_true.1 h2 j (by simpa using hj)
  rw [this] at h
  cases h
def Wk.pr (k : Wk) : List Nat × Tm := (k.how, k.team)
structure FInv (ags : List Ag) (used n : Nat) (most : Int) (t0 : Tm) (goal : Tm → Bool) (full : List Wk) (kk i : Nat) (rws : List Wk) : Prop where
  bin : BIn (stepT ags used n) ags.length most t0 goal (full.map Wk.pr) kk i
  rows : ∀ k ∈ full, k ∈ rws
  lo : ∀ k ∈ full, Tm.lo k.team
  lens : ∀ (j : Nat) (k : Wk), full[j]? = some k → k.how.length ≤ j
def pushF (full : List Wk) (k : Wk) : List Wk := if k.team ∈ full.map Wk.team then full else full ++ [k]
section
variable {ags : List Ag} {used n : Nat} {most : Int} {t0 : Tm} {goal : Tm → Bool} {full : List Wk} {kk i : Nat} {rws : List Wk} {k kn : Wk} {rest : List Wk}
theorem map_team (full : List Wk) : (full.map Wk.pr).map (·.2) = full.map Wk.team := by simp [Wk.pr]
theorem FInv.start (h0 : Tm.lo t0) (c : Nat) : FInv ags used n most t0 goal [⟨none, c, [], t0⟩] 0 0 [⟨none, c, [], t0⟩] where
  bin := BIn.start
  rows := fun k h => h
  lo := fun k h => by simp at h; subst h; exact h0
  lens := fun j k h => by
    cases j with
    | zero => simp at h; subst h; simp
    | succ j => simp at h
def tcode (t : Tm) : Nat := t.1 * 4096 + t.2.1 * 64 + t.2.2
theorem FInv.len (h : FInv ags used n most t0 goal full kk i rws) : full.length ≤ 262144 := by
  have hn := h.bin.nodup
  rw [map_team] at hn
  have : ((full.map Wk.team).map tcode).Nodup := by
    unfold List.Nodup at hn ⊢
    rw [List.pairwise_map]
    refine hn.imp_of_mem ?_
    intro a b ha hb hab e
    obtain ⟨ka, hka, rfl⟩ := List.mem_map.1 ha
    obtain ⟨kb, hkb, rfl⟩ := List.mem_map.1 hb
    have h1 := h.lo ka hka
    have h2 := h.lo kb hkb
    obtain ⟨h11, h12, h13⟩ := h1
    obtain ⟨h21, h22, h23⟩ := h2
    apply hab
    unfold tcode at e
    have e1 : ka.team.1 = kb.team.1 := by omega
    have e2 : ka.team.2.1 = kb.team.2.1 := by omega
    have e3 : ka.team.2.2 = kb.team.2.2 := by omega
    exact Prod.ext e1 (Prod.ext e2 e3)
  have hle := nodup_le 262144 _ this (fun x hx => by
    obtain ⟨t, ht, rfl⟩ := List.mem_map.1 hx
    obtain ⟨k, hk, rfl⟩ := List.mem_map.1 ht
    obtain ⟨h1, h2, h3⟩ := h.lo k hk
    unfold tcode
    omega)
  simpa using hle
theorem pr_get (hk : full[kk]? = some k) : (full.map Wk.pr)[kk]? = some (k.how, k.team) := by
  rw [List.getElem?_map, hk]; rfl
theorem cur_of (h : full.drop kk = k :: rest) : full[kk]? = some k ∧ rest = full.drop (kk + 1) ∧ kk < full.length := by
  have hlt : kk < full.length := by
    rcases Nat.lt_or_ge kk full.length with h1 | h1
    · exact h1
    · rw [List.drop_of_length_le h1] at h; cases h
  rw [List.drop_eq_getElem_cons hlt] at h
  injection h with h1 h2
  exact ⟨by rw [List.getElem?_eq_getElem hlt, h1], h2.symm, hlt⟩
theorem FInv.none_ (h : FInv ags used n most t0 goal full kk 0 rws) (hd : full.drop kk = []) : NoWord (stepT ags used n) most t0 goal :=
  h.bin.none_ stepT_none (by
    rw [List.length_map]
    exact List.drop_eq_nil_iff.1 hd)
theorem FInv.found (h : FInv ags used n most t0 goal full kk 0 rws) (hk : full[kk]? = some k) (hg : goal k.team = true) : IsFirst (stepT ags used n) ags.length most t0 goal k.how ∧ run (stepT ags used n) t0 k.how = some k.team :=
  ⟨h.bin.found stepT_none (pr_get hk) hg, h.bin.leads _ (List.mem_of_getElem? (pr_get hk))⟩
theorem FInv.long (h : FInv ags used n most t0 goal full kk 0 rws) (hk : full[kk]? = some k) (hg : goal k.team = false) (hl : (k.how.length : Int) = most) : FInv ags used n most t0 goal full (kk + 1) 0 rws :=
  ⟨h.bin.next_long (pr_get hk) hg hl, h.rows, h.lo, h.lens⟩
theorem FInv.next (h : FInv ags used n most t0 goal full kk ags.length rws) (hk : full[kk]? = some k) (hg : goal k.team = false) : FInv ags used n most t0 goal full (kk + 1) 0 rws :=
  ⟨h.bin.next stepT_none (pr_get hk) hg, h.rows, h.lo, h.lens⟩
theorem FInv.skip_none (h : FInv ags used n most t0 goal full kk i rws) (hk : full[kk]? = some k) (hs : stepT ags used n k.team i = none) : FInv ags used n most t0 goal full kk (i + 1) rws :=
  ⟨h.bin.skip_none (pr_get hk) hs, h.rows, h.lo, h.lens⟩
theorem FInv.skip_met (h : FInv ags used n most t0 goal full kk i rws) (hk : full[kk]? = some k) {t : Tm} (hs : stepT ags used n k.team i = some t) (hm : t ∈ full.map Wk.team) : FInv ags used n most t0 goal full kk (i + 1) rws :=
  ⟨h.bin.skip_met (pr_get hk) hs (by rw [map_team]; exact hm), h.rows, h.lo, h.lens⟩
theorem FInv.same (h : FInv ags used n most t0 goal full kk i rws) (hk : full[kk]? = some k) (hs : stepT ags used n k.team i = some k.team) : FInv ags used n most t0 goal full kk (i + 1) rws :=
  h.skip_met hk hs (List.mem_map.2 ⟨k, List.mem_of_getElem? hk, rfl⟩)
theorem FInv.more (h : FInv ags used n most t0 goal full kk i rws) (x : Wk) : FInv ags used n most t0 goal full kk i (x :: rws) :=
  ⟨h.bin, fun k hk => List.mem_cons.2 (.inr (h.rows k hk)), h.lo, h.lens⟩
theorem FInv.push (h : FInv ags used n most t0 goal full kk i rws) (hk : full[kk]? = some k) (hi : i < ags.length) (hs : stepT ags used n k.team i = some kn.team) (hw : kn.how = k.how ++ [i]) (hl : (k.how.length : Int) ≠ most) (hlo : Tm.lo kn.team) :
    FInv ags used n most t0 goal (pushF full kn) kk (i + 1) (kn :: rws) := by
  unfold pushF
  split
  · rename_i hm
    exact (h.skip_met hk hs hm).more kn
  · rename_i hm
    have hb := h.bin.push (pr_get hk) hi hs (by rw [map_team]; exact hm) hl
    refine ⟨?_, ?_, ?_, ?_⟩
    · rw [List.map_append]
      rw [← hw] at hb
      exact hb
    · intro x hx
      rcases List.mem_append.1 hx with h1 | h1
      · exact List.mem_cons.2 (.inr (h.rows x h1))
      · simp at h1; subst h1; simp
    · intro x hx
      rcases List.mem_append.1 hx with h1 | h1
      · exact h.lo x h1
      · simp at h1; subst h1; exact hlo
    · intro j x hx
      rcases getElem?_snoc_cases hx with ⟨h1, _⟩ | ⟨h1, h2⟩
      · exact h.lens j x h1
      · subst h2
        rw [hw, List.length_append, List.length_singleton, h1]
        have h3 := h.lens kk k hk
        have h4 := (List.getElem?_eq_some_iff.1 hk).1
        omega
theorem pushF_drop (hk : kk + 1 ≤ full.length) : (pushF full kn).drop (kk + 1) = pushT (full.drop (kk + 1)) (full.map Wk.team) kn := by
  unfold pushF pushT
  split
  · rfl
  · rw [List.drop_append_of_le_length hk]
theorem pushF_map : (pushF full kn).map Wk.team = pushM (full.map Wk.team) kn.team := by
  unfold pushF pushM
  split
  · rfl
  · rw [List.map_append]; rfl
theorem pushF_get (hk : full[kk]? = some k) : (pushF full kn)[kk]? = some k := by
  unfold pushF
  split
  · exact hk
  · exact getElem?_snoc_old hk
end
end Go.Proofs.YtofkhehcnfiopaaDoor.N
namespace Go.Proofs.YtofkhehcnfiopaaDoor.N
open Go Go.RowKit Go.Proofs
theorem F.ent112 : Enters Tryd.prog 112 := enters_of Tryd.func112 rfl (by kernel_rfl)
theorem F.ent113 : Enters Tryd.prog 113 := enters_of Tryd.func113 rfl (by kernel_rfl)
theorem F.ent114 : Enters Tryd.prog 114 := enters_of Tryd.func114 rfl (by kernel_rfl)
theorem F.ent91 : Enters Tryd.prog 91 := enters_of Tryd.func91 rfl (by kernel_rfl)
theorem F.fi142_0 : FI Tryd.prog 142 0 25 0 := ⟨_, _, Tryd.underlying142, rfl, rfl, rfl⟩
theorem F.fi142_1 : FI Tryd.prog 142 1 79 1 := ⟨_, _, Tryd.underlying142, rfl, rfl, rfl⟩
theorem F.one25 : One Tryd.prog 25 := ⟨by unfold aggB; rw [Tryd.underlying25], by rw [Tryd.underlying25]; simp⟩
theorem F.one77 : One Tryd.prog 77 := ⟨by unfold aggB; rw [Tryd.underlying77], by rw [Tryd.underlying77]; simp⟩
theorem F.pl139 : Places Tryd.prog 139 [(0, 1), (1, 1)] := .inl ⟨_, Tryd.underlying139, by kernel_rfl⟩
theorem F.pl142 : Places Tryd.prog 142 [(0, 1), (1, 3)] := .inl ⟨_, Tryd.underlying142, by kernel_rfl⟩
theorem F.ti139 : TI Tryd.prog 139 (.agg [.slice none 0 0, .map none].toArray) 2 32 := TI.of (by kernel_rfl)
theorem F.ti25 : TI Tryd.prog 25 (.slice none 0 0) 1 24 := TI.of (by kernel_rfl)
theorem F.ti77 : TI Tryd.prog 77 (.int .u8 0) 1 1 := TI.of (by kernel_rfl)
theorem find_c {C : Ctx} {fr : List (Nat × Value)} {T : List Res} {a : Act} {w : World} (hC : C.P = Tryd.prog) {ags : List Ag} {used n : Nat} {most : Int} {t0 : Tm} {goal : Tm → Bool} {aA : Option Addr} {cg : Nat} {fid : FuncId} {cap : List Value} {r : Res} {r' : Tm → Res} (hok : Oks ags) (hu : used < 256) (hn1 : 1 ≤ n) (hn3 : n ≤ 3) (h0 : Tm.lo t0) (hAg : Res.row 89 5 aA ags.length cg (ags.flatMap Ag.cells) ∈ T) (hent : Enters Tryd.prog fid) (hG : ∀ (N : Nat) (fr : List (Nat × Value)) (Y : List Res) (a : Act) (w : World) (t : Tm), Tm.lo t → (∀ x ∈ T, x ∈ Y) → At ⟨Tryd.prog, C.B, C.w0, N, []⟩ fr (r :: Y) a w → Calls Tryd.prog fid ([(.agg [.int .u8 (t.1 : Int), .int .u8 (t.2.1 : Int), .int .u8 (t.2.2 : Int)].toArray : Value)] ++ cap).toArray w (fun e w' => e = .returned (.bool (goal t)) ∧ At ⟨Tryd.prog, C.B, C.w0, N, []⟩ fr ((if goal t = true then r' t else r) :: Y) a w')) (ha : At C fr (r :: T) a w) : Calls C.P 77 #[.agg [.slice aA ags.length cg, .int .u8 (used : Int)].toArray, .agg [.int .u8 (t0.1 : Int), .int .u8 (t0.2.1 : Int), .int .u8 (t0.2.2 : Int)].toArray, .int .i64 (n : Int), .int .i64 most, .func (.func fid) ([] : List Value).toArray cap.toArray] w fun e w' => (∃ k : Wk, IsFirst (stepT ags used n) ags.length most t0 goal k.how ∧ run (stepT ags used n) t0 k.how = some k.team ∧ goal k.team = true ∧ e = .returned (.tuple #[.slice k.A k.how.length k.c, .bool true]) ∧ At C fr (r' k.team :: k.res :: T) a w') ∨ (NoWord (stepT ags used n) most t0 goal ∧ e = .returned (.tuple #[.slice none 0 0, .bool false]) ∧ At C fr (r :: T) a w') := by
  obtain ⟨P, B, w0, N0, ds⟩ := C
  obtain rfl : P = Tryd.prog := hC
  refine enter_in (N := 101) [(0, .agg [.slice aA ags.length cg, .int .u8 (used : Int)].toArray), (1, .agg [.int .u8 (t0.1 : Int), .int .u8 (t0.2.1 : Int), .int .u8 (t0.2.2 : Int)].toArray), (2, .int .i64 (n : Int)), (3, .int .i64 most), (4, .func (.func fid) ([] : List Value).toArray cap.toArray)] ha Tryd.func77 rfl Tryd.ntmps77 rfl rfl ?_
  refine cod_seq ?_
  refine cod_region ?_
  refine lst_box rfl rfl ?_
  intro b5
  refine lst_box rfl rfl ?_
  intro b6
  refine lst_assign rfl rfl ?_
  refine lst_assign rfl rfl ?_
  refine lst_nil ?_
  refine ex_then ?_
  refine cod_seq ?_
  refine cod_region ?_
  refine lst_makeMap rfl ?_
  intro b20
  refine lst_struct (vs := [(1, _)]) (l' := [_, _]) rfl rfl F.ti139 F.pl139 (.cons rfl rfl (.nil _)) rfl ?_
  refine lst_box rfl rfl ?_
  intro b22
  refine lst_assign rfl rfl ?_
  refine lst_nil ?_
  refine ex_then ?_
  refine cod_seq ?_
  refine cod_region ?_
  refine lst_move rfl rfl ?_
  refine lst_makeFunc (fs := [_]) (cs := []) rfl rfl rfl ?_
  refine lst_assign rfl rfl ?_
  refine lst_nil ?_
  refine ex_then ?_
  refine cod_seq ?_
  refine cod_region ?_
  refine lst_move rfl rfl ?_
  refine lst_loadN rfl rfl F.agg79 F.ti79 ?_
  refine lst_loadN rfl rfl F.agg79 F.ti79 ?_
  refine lst_struct (vs := [(1, _)]) (l' := [_, _, _, _]) rfl rfl F.ti142 F.pl142 (.cons rfl rfl (.nil _)) rfl ?_
  refine lst_nilque 142 4 ?_
  refine lst_nilrow 3 1 ?_
  have hp0 : pushT [] [] (⟨none, 0, [], t0⟩ : Wk) = [⟨none, 0, [], t0⟩] := by simp [pushT]
  have hm0 : pushM [] (⟨none, 0, [], t0⟩ : Wk).team = [t0] := by simp [pushM]
  refine lst_call (X := Option Addr × Nat) (first := [.pointer (some ⟨b22, 0, none⟩)]) (cap := []) (vs := [_, _]) (p := fun _ => True) (val := fun _ => .tuple #[]) (rs := fun x => .blk b22 (.cells [.slice x.1 1 x.2, .map (some b20)].toArray 139 (0, 0)) :: .blk b20 (metObj [t0]) :: .que 142 4 x.1 1 x.2 ([(⟨none, 0, [], t0⟩ : Wk)].flatMap Wk.cells) :: .blk b5 (.cells [.slice aA ags.length cg, .int .u8 (used : Int)].toArray 75 (0, 0)) :: r :: .row 3 1 none 0 0 [] :: T) rfl rfl rfl F.ent112 (fun a w ha => (push_c (bq := b22) (bm := b20) (A := none) (c := 0) (todo := []) (met := []) (k := ⟨none, 0, [], t0⟩) (T := .blk b5 (.cells [.slice aA ags.length cg, .int .u8 (used : Int)].toArray 75 (0, 0)) :: r :: .row 3 1 none 0 0 [] :: T) rfl (by simp) (by simp) h0.ok (ha.pck (by repeat (first | exact Pck.nil _ | exact Pck.refl _ | (apply Pck.cons; focus ((repeat (first | exact Rem.here _ | apply Rem.there)); done)) | refine Pck.skip _ ?_)))).mono (fun e w' h => by rw [hp0, hm0] at h; obtain ⟨A', c', h1, h2⟩ := h; exact ⟨(A', c'), trivial, h1, h2⟩)) ?_
  rintro ⟨A0, c0⟩ -
  refine lst_nil ?_
  refine ex_then ?_
  refine cod_block ?_
  refine cod_loop' (G := Option Addr × Nat × List Wk × Nat × List Wk) (fun g => FInv ags used n most t0 goal g.2.2.1 g.2.2.2.1 0 g.2.2.2.2) (fun g => 300000 - g.2.2.2.1) (fun g => [(2, .int .i64 (n : Int)), (3, .int .i64 most), (4, .func (.func fid) ([] : List Value).toArray cap.toArray), (5, .pointer (some ⟨b5, 0, none⟩)), (12, .pointer (some ⟨b22, 0, none⟩)), (13, .func (.func 112) [.pointer (some ⟨b22, 0, none⟩)].toArray ([] : List Value).toArray)]) (fun g => .blk b22 (.cells [.slice g.1 (g.2.2.1.drop (g.2.2.2.1)).length g.2.1, .map (some b20)].toArray 139 (0, 0)) :: .blk b20 (metObj (g.2.2.1.map Wk.team)) :: .que 142 4 g.1 (g.2.2.1.drop (g.2.2.2.1)).length g.2.1 ((g.2.2.1.drop (g.2.2.2.1)).flatMap Wk.cells) :: .blk b5 (.cells [.slice aA ags.length cg, .int .u8 (used : Int)].toArray 75 (0, 0)) :: r :: (g.2.2.2.2.map Wk.res ++ T)) (A0, c0, [⟨none, 0, [], t0⟩], 0, [⟨none, 0, [], t0⟩]) (FInv.start h0 0) (by repeat (first | exact Sub.nil _ | refine Sub.cons rfl ?_)) (by repeat (first | exact Pck.nil _ | exact Pck.refl _ | (apply Pck.cons; focus ((repeat (first | exact Rem.here _ | apply Rem.there)); done)) | refine Pck.skip _ ?_)) ?_
  rintro ⟨A1, c1, full, kk, rws⟩ hI
  dsimp only at hI ⊢
  refine cod_block ?_
  refine cod_scope ?_
  refine cod_seq ?_
  rcases hdrop : full.drop kk with _ | ⟨k, rest⟩
  · skip
    refine cod_region ?_
    have hno := hI.none_ hdrop
    refine lst_move rfl rfl ?_
    refine lst_call (X := Unit) (first := []) (cap := []) (vs := [_]) (p := fun _ => True) (val := fun _ => .tuple #[.agg [.slice none 0 0, .int .u8 0, .int .u8 0, .int .u8 0].toArray, .bool false]) (rs := fun _ => .blk b5 (.cells [.slice aA ags.length cg, .int .u8 (used : Int)].toArray 75 (0, 0)) :: r :: (rws.map Wk.res ++ T)) rfl rfl rfl F.ent113 (fun a w ha => (pop_none rfl ha).mono (fun e w' h => ⟨(), trivial, h.1, h.2⟩)) ?_
    rintro ⟨⟩ -
    refine lst_move rfl rfl ?_
    refine lst_extract rfl rfl rfl ?_
    refine lst_extract rfl rfl rfl ?_
    refine lst_alloc rfl F.ti142 ?_
    intro b14
    refine lst_store rfl rfl F.ti142 rfl ?_
    refine lst_assign rfl rfl ?_
    refine lst_nil ?_
    refine ex_then ?_
    refine cod_seq ?_
    refine cod_seq ?_
    refine cod_region ?_
    refine lst_move rfl rfl ?_
    refine lst_not rfl rfl ?_
    refine lst_nil ?_
    refine ex_then ?_
    refine cod_cond_true rfl ?_
    refine cod_seq ?_
    refine cod_region ?_
    refine lst_assign rfl rfl ?_
    refine lst_assign rfl rfl ?_
    refine lst_nil ?_
    refine ex_then ?_
    refine cod_ret ?_
    refine ex_then_ret ?_
    refine ex_scope_ret ?_
    refine ex_block_ret ?_
    refine ex_then_ret ?_
    refine ex_block_ret ?_
    exact ex_ret rfl (fun a w ha => res_two rfl rfl rfl ha) (fun _ _ ha' => .inr ⟨hno, rfl, ha.back (ha'.pck (by repeat (first | exact Pck.nil _ | exact Pck.refl _ | exact Pck.suffix _ _ | (apply Pck.cons; focus ((repeat (first | exact Rem.here _ | apply Rem.there)); done)) | refine Pck.skip _ ?_)))⟩)
  · skip
    refine cod_region ?_
    obtain ⟨hk, hrest, hkl⟩ := cur_of hdrop
    subst hrest
    have hlen := hI.len
    refine lst_move rfl rfl ?_
    refine lst_call (X := Option Addr × Nat) (first := []) (cap := []) (vs := [_]) (p := fun _ => True) (val := fun _ => .tuple #[.agg [.slice k.A k.how.length k.c, .int .u8 (k.team.1 : Int), .int .u8 (k.team.2.1 : Int), .int .u8 (k.team.2.2 : Int)].toArray, .bool true]) (rs := fun x => .blk b22 (.cells [.slice x.1 (full.drop (kk + 1)).length x.2, .map (some b20)].toArray 139 (0, 0)) :: .blk b20 (metObj (full.map Wk.team)) :: .que 142 4 x.1 (full.drop (kk + 1)).length x.2 ((full.drop (kk + 1)).flatMap Wk.cells) :: .blk b5 (.cells [.slice aA ags.length cg, .int .u8 (used : Int)].toArray 75 (0, 0)) :: r :: (rws.map Wk.res ++ T)) rfl rfl rfl F.ent113 (fun a w ha => (pop_some (k := k) (todo := full.drop (kk + 1)) rfl ha).mono (fun e w' h => by obtain ⟨A', c', h1, h2⟩ := h; exact ⟨(A', c'), trivial, h1, h2⟩)) ?_
    rintro ⟨A2, c2⟩ -
    refine lst_move rfl rfl ?_
    refine lst_extract rfl rfl rfl ?_
    refine lst_extract rfl rfl rfl ?_
    refine lst_alloc rfl F.ti142 ?_
    intro b14
    refine lst_store rfl rfl F.ti142 rfl ?_
    refine lst_assign rfl rfl ?_
    refine lst_nil ?_
    refine ex_then ?_
    refine cod_seq ?_
    refine cod_seq ?_
    refine cod_region ?_
    refine lst_move rfl rfl ?_
    refine lst_not rfl rfl ?_
    refine lst_nil ?_
    refine ex_then ?_
    refine cod_cond_false rfl ?_
    refine cod_skip ?_
    refine ex_then ?_
    refine cod_seq ?_
    refine cod_seq ?_
    refine cod_region ?_
    refine lst_move rfl rfl ?_
    refine lst_field_z rfl rfl F.fi142_1 F.ti79 ?_
    refine lst_loadN rfl rfl F.agg79 F.ti79 ?_
    refine lst_call (X := Unit) (first := []) (cap := cap) (vs := [_]) (p := fun _ => True) (val := fun _ => .bool (goal k.team)) (rs := fun _ => (if goal k.team = true then r' k.team else r) :: .blk b14 (.cells [.slice k.A k.how.length k.c, .int .u8 (k.team.1 : Int), .int .u8 (k.team.2.1 : Int), .int .u8 (k.team.2.2 : Int)].toArray 142 (0, 0)) :: .blk b22 (.cells [.slice A2 (full.drop (kk + 1)).length c2, .map (some b20)].toArray 139 (0, 0)) :: .blk b20 (metObj (full.map Wk.team)) :: .que 142 4 A2 (full.drop (kk + 1)).length c2 ((full.drop (kk + 1)).flatMap Wk.cells) :: .blk b5 (.cells [.slice aA ags.length cg, .int .u8 (used : Int)].toArray 75 (0, 0)) :: (rws.map Wk.res ++ T)) rfl rfl rfl hent (fun a w ha => (hG _ _ (.blk b14 (.cells [.slice k.A k.how.length k.c, .int .u8 (k.team.1 : Int), .int .u8 (k.team.2.1 : Int), .int .u8 (k.team.2.2 : Int)].toArray 142 (0, 0)) :: .blk b22 (.cells [.slice A2 (full.drop (kk + 1)).length c2, .map (some b20)].toArray 139 (0, 0)) :: .blk b20 (metObj (full.map Wk.team)) :: .que 142 4 A2 (full.drop (kk + 1)).length c2 ((full.drop (kk + 1)).flatMap Wk.cells) :: .blk b5 (.cells [.slice aA ags.length cg, .int .u8 (used : Int)].toArray 75 (0, 0)) :: (rws.map Wk.res ++ T)) a w k.team (hI.lo k (List.mem_of_getElem? hk)) (fun x hx => by simp [hx]) (ha.pck (by repeat (first | exact Pck.nil _ | exact Pck.refl _ | (apply Pck.cons; focus ((repeat (first | exact Rem.here _ | apply Rem.there)); done)) | refine Pck.skip _ ?_)))).mono (fun e w' h => ⟨(), trivial, h.1, h.2⟩)) ?_
    rintro ⟨⟩ -
    dsimp only
    refine lst_nil ?_
    refine ex_then ?_
    refine cod_cond_bool rfl (fun hc1 => ?_) (fun hc1 => ?_)
    · skip
      rw [if_pos hc1]
      obtain ⟨hf1, hf2⟩ := hI.found hk hc1
      have hkr := hI.rows k (List.mem_of_getElem? hk)
      refine cod_seq ?_
      refine cod_region ?_
      refine lst_field_z rfl rfl F.fi142_0 F.ti25 ?_
      refine lst_load rfl rfl F.one25 ?_
      refine lst_assign rfl rfl ?_
      refine lst_assign rfl rfl ?_
      refine lst_nil ?_
      refine ex_then ?_
      refine cod_ret ?_
      refine ex_then_ret ?_
      refine ex_scope_ret ?_
      refine ex_block_ret ?_
      refine ex_then_ret ?_
      refine ex_block_ret ?_
      exact ex_ret rfl (fun a w ha => res_two rfl rfl rfl ha) (fun _ _ ha' => .inl ⟨k, hf1, hf2, hc1, rfl, ha.back (ha'.pck (by repeat (first | exact Pck.nil _ | exact Pck.refl _ | exact Pck.suffix _ _ | exact Pck.pull hkr _ | (apply Pck.cons; focus ((repeat (first | exact Rem.here _ | apply Rem.there)); done)) | refine Pck.skip _ ?_)))⟩)
    · skip
      rw [if_neg (by rw [hc1]; exact Bool.false_ne_true)]
      refine cod_skip ?_
      refine ex_then ?_
      refine cod_seq ?_
      refine cod_seq ?_
      refine cod_region ?_
      refine lst_field_z rfl rfl F.fi142_0 F.ti25 ?_
      refine lst_load rfl rfl F.one25 ?_
      refine lst_len rfl rfl Tryd.underlying25 ?_
      refine lst_move rfl rfl ?_
      refine lst_int rfl rfl rfl bin_eql ?_
      refine lst_nil ?_
      refine ex_then ?_
      refine cod_cond_dec rfl (fun hc2 => ?_) (fun hc2 => ?_)
      · skip
        refine cod_exit ?_
        refine ex_then_exit ?_
        refine ex_scope_exit ?_
        refine ex_block_exit ?_
        have hI' := hI.long hk hc1 hc2
        refine ex_round' (A2, c2, full, kk + 1, rws) hI' (by (try dsimp only); omega) (by (try dsimp only); repeat (first | exact Sub.nil _ | refine Sub.cons rfl ?_)) (by repeat (first | exact Pck.nil _ | exact Pck.refl _ | (apply Pck.cons; focus ((repeat (first | exact Rem.here _ | apply Rem.there)); done)) | refine Pck.skip _ ?_))
      · skip
        refine cod_skip ?_
        refine ex_then ?_
        refine cod_seq ?_
        refine cod_label ?_
        refine ex_then ?_
        refine cod_seq ?_
        refine cod_region ?_
        refine lst_field_z rfl rfl F.fi75_0 F.ti72 ?_
        refine lst_load rfl rfl F.one72 ?_
        refine lst_len rfl rfl Tryd.underlying72 ?_
        refine lst_move rfl rfl ?_
        refine lst_nil ?_
        refine ex_then ?_
        refine cod_block ?_
        refine cod_loop' (G := Option Addr × Nat × List Wk × List Wk × Nat) (fun g => FInv ags used n most t0 goal g.2.2.1 kk g.2.2.2.2 g.2.2.2.1 ∧ g.2.2.1[kk]? = some k ∧ kk < g.2.2.1.length ∧ g.2.2.2.2 ≤ ags.length) (fun g => ags.length - g.2.2.2.2) (fun g => [(2, .int .i64 (n : Int)), (3, .int .i64 most), (4, .func (.func fid) ([] : List Value).toArray cap.toArray), (5, .pointer (some ⟨b5, 0, none⟩)), (12, .pointer (some ⟨b22, 0, none⟩)), (13, .func (.func 112) [.pointer (some ⟨b22, 0, none⟩)].toArray ([] : List Value).toArray), (14, .pointer (some ⟨b14, 0, none⟩)), (49, .slice aA ags.length cg), (50, .int .i64 (ags.length : Int)), (51, .int .i64 (g.2.2.2.2 : Int))]) (fun g => .blk b22 (.cells [.slice g.1 (g.2.2.1.drop (kk + 1)).length g.2.1, .map (some b20)].toArray 139 (0, 0)) :: .blk b20 (metObj (g.2.2.1.map Wk.team)) :: .que 142 4 g.1 (g.2.2.1.drop (kk + 1)).length g.2.1 ((g.2.2.1.drop (kk + 1)).flatMap Wk.cells) :: .blk b14 (.cells [.slice k.A k.how.length k.c, .int .u8 (k.team.1 : Int), .int .u8 (k.team.2.1 : Int), .int .u8 (k.team.2.2 : Int)].toArray 142 (0, 0)) :: .blk b5 (.cells [.slice aA ags.length cg, .int .u8 (used : Int)].toArray 75 (0, 0)) :: r :: (g.2.2.2.1.map Wk.res ++ T)) (A2, c2, full, rws, 0) ⟨hI, hk, hkl, Nat.zero_le _⟩ (by repeat (first | exact Sub.nil _ | refine Sub.cons rfl ?_)) (by repeat (first | exact Pck.nil _ | exact Pck.refl _ | (apply Pck.cons; focus ((repeat (first | exact Rem.here _ | apply Rem.there)); done)) | refine Pck.skip _ ?_)) ?_
        rintro ⟨A3, c3, full3, rws3, i⟩ ⟨hI3, hk3, hkl3, hile⟩
        dsimp only at hI3 hk3 hkl3 hile ⊢
        refine cod_seq ?_
        refine cod_region ?_
        refine lst_int rfl rfl rfl bin_lss ?_
        refine lst_nil ?_
        refine ex_then ?_
        refine cod_seq ?_
        refine cod_cond_dec rfl (fun hc3 => ?_) (fun hc3 => ?_)
        · skip
          have hi' : i < ags.length := by omega
          obtain ⟨gA, hgA⟩ := row_some (ha.own _ (List.mem_cons.2 (.inr hAg))) (by omega)
          subst hgA
          obtain ⟨x, hx⟩ : ∃ x, ags[i]? = some x := ⟨_, List.getElem?_eq_getElem hi'⟩
          have hxo : x.ok := hok.2 x (List.mem_of_getElem? hx)
          have hxd : ags.getD i default = x := by rw [List.getD_eq_getElem?_getD, hx]; rfl
          have hklo := hI3.lo k (List.mem_of_getElem? hk3)
          have hlen3 := hI3.len
          refine cod_skip ?_
          refine ex_then ?_
          refine cod_seq ?_
          refine cod_block ?_
          refine cod_seq ?_
          refine cod_region ?_
          refine lst_move rfl rfl ?_
          refine lst_index (j := i) rfl rfl rfl Tryd.underlying72 F.ti89 rfl hi' ?_
          refine lst_loadN_at (l := [.int .i64 (x.needs : Int), .int .i64 (x.no : Int), .int .i64 (x.takes : Int), .int .i64 (x.leaves : Int), .int .i64 (x.cost : Int)]) rfl rfl F.agg89 F.ti89 rfl (fun a w ha j u hu => row_at ha (e := 89) (n := ags.length) (c := cg) (cells := Ag.cells) (by simp [hAg]) (fun _ => rfl) hx hu) ?_
          refine lst_alloc rfl F.ti89 ?_
          intro b17
          refine lst_assign rfl rfl ?_
          refine lst_store rfl rfl F.ti89 rfl ?_
          refine lst_nil ?_
          refine ex_then ?_
          refine cod_seq ?_
          refine cod_region ?_
          refine lst_field_z rfl rfl F.fi142_1 F.ti79 ?_
          refine lst_loadN rfl rfl F.agg79 F.ti79 ?_
          refine lst_alloc rfl F.ti79 ?_
          intro b18
          refine lst_store rfl rfl F.ti79 rfl ?_
          refine lst_nil ?_
          refine ex_then ?_
          refine cod_seq ?_
          refine cod_seq ?_
          refine cod_region ?_
          refine lst_move rfl rfl ?_
          refine lst_move rfl rfl ?_
          refine lst_nil ?_
          refine ex_then ?_
          refine cod_block ?_
          refine cod_loop' (G := Nat) (fun g => g ≤ n ∧ (0 < g → used.testBit i = true) ∧ mayT x k.team g = true) (fun g => n - g) (fun g => [(2, .int .i64 (n : Int)), (3, .int .i64 most), (4, .func (.func fid) ([] : List Value).toArray cap.toArray), (5, .pointer (some ⟨b5, 0, none⟩)), (12, .pointer (some ⟨b22, 0, none⟩)), (13, .func (.func 112) [.pointer (some ⟨b22, 0, none⟩)].toArray ([] : List Value).toArray), (14, .pointer (some ⟨b14, 0, none⟩)), (49, .slice (some ⟨gA, 0, none⟩) ags.length cg), (50, .int .i64 (ags.length : Int)), (51, .int .i64 (i : Int)), (16, .int .i64 (i : Int)), (17, .pointer (some ⟨b17, 0, none⟩)), (18, .pointer (some ⟨b18, 0, none⟩)), (58, .int .i64 (n : Int)), (59, .int .i64 (g : Int))]) (fun g => .blk b18 (.cells [.int .u8 ((putT x k.team g).1 : Int), .int .u8 ((putT x k.team g).2.1 : Int), .int .u8 ((putT x k.team g).2.2 : Int)].toArray 79 (0, 0)) :: .blk b17 (.cells [.int .i64 (x.needs : Int), .int .i64 (x.no : Int), .int .i64 (x.takes : Int), .int .i64 (x.leaves : Int), .int .i64 (x.cost : Int)].toArray 89 (0, 0)) :: .blk b22 (.cells [.slice A3 (full3.drop (kk + 1)).length c3, .map (some b20)].toArray 139 (0, 0)) :: .blk b20 (metObj (full3.map Wk.team)) :: .que 142 4 A3 (full3.drop (kk + 1)).length c3 ((full3.drop (kk + 1)).flatMap Wk.cells) :: .blk b14 (.cells [.slice k.A k.how.length k.c, .int .u8 (k.team.1 : Int), .int .u8 (k.team.2.1 : Int), .int .u8 (k.team.2.2 : Int)].toArray 142 (0, 0)) :: .blk b5 (.cells [.slice (some ⟨gA, 0, none⟩) ags.length cg, .int .u8 (used : Int)].toArray 75 (0, 0)) :: r :: (rws3.map Wk.res ++ T)) (0) ⟨Nat.zero_le _, fun h => absurd h (by omega), rfl⟩ (by repeat (first | exact Sub.nil _ | refine Sub.cons rfl ?_)) (by repeat (first | exact Pck.nil _ | exact Pck.refl _ | (apply Pck.cons; focus ((repeat (first | exact Rem.here _ | apply Rem.there)); done)) | refine Pck.skip _ ?_)) ?_
          rintro j ⟨hjn, hub, hmay⟩
          try dsimp only
          refine cod_seq ?_
          refine cod_region ?_
          refine lst_int rfl rfl rfl bin_lss ?_
          refine lst_nil ?_
          refine ex_then ?_
          refine cod_seq ?_
          refine cod_cond_dec rfl (fun hc4 => ?_) (fun hc4 => ?_)
          · skip
            have hj' : j < n := by omega
            have hj3 : j < 3 := by omega
            refine cod_skip ?_
            refine ex_then ?_
            refine cod_seq ?_
            refine cod_block ?_
            refine cod_seq ?_
            refine cod_region ?_
            refine lst_move rfl rfl ?_
            refine lst_assign rfl rfl ?_
            refine lst_nil ?_
            refine ex_then ?_
            refine cod_seq ?_
            refine cod_seq ?_
            refine cod_ghost (G := Unit) (fun _ => True) (fun _ => [(75, .bool (!(used.testBit i && mayN x (tget k.team j)))), (19, .int .i64 (j : Int)), (2, .int .i64 (n : Int)), (3, .int .i64 most), (4, .func (.func fid) ([] : List Value).toArray cap.toArray), (5, .pointer (some ⟨b5, 0, none⟩)), (12, .pointer (some ⟨b22, 0, none⟩)), (13, .func (.func 112) [.pointer (some ⟨b22, 0, none⟩)].toArray ([] : List Value).toArray), (14, .pointer (some ⟨b14, 0, none⟩)), (49, .slice (some ⟨gA, 0, none⟩) ags.length cg), (50, .int .i64 (ags.length : Int)), (51, .int .i64 (i : Int)), (16, .int .i64 (i : Int)), (17, .pointer (some ⟨b17, 0, none⟩)), (18, .pointer (some ⟨b18, 0, none⟩)), (58, .int .i64 (n : Int)), (59, .int .i64 (j : Int))]) (fun _ => .blk b18 (.cells [.int .u8 ((putT x k.team j).1 : Int), .int .u8 ((putT x k.team j).2.1 : Int), .int .u8 ((putT x k.team j).2.2 : Int)].toArray 79 (0, 0)) :: .blk b17 (.cells [.int .i64 (x.needs : Int), .int .i64 (x.no : Int), .int .i64 (x.takes : Int), .int .i64 (x.leaves : Int), .int .i64 (x.cost : Int)].toArray 89 (0, 0)) :: .blk b22 (.cells [.slice A3 (full3.drop (kk + 1)).length c3, .map (some b20)].toArray 139 (0, 0)) :: .blk b20 (metObj (full3.map Wk.team)) :: .que 142 4 A3 (full3.drop (kk + 1)).length c3 ((full3.drop (kk + 1)).flatMap Wk.cells) :: .blk b14 (.cells [.slice k.A k.how.length k.c, .int .u8 (k.team.1 : Int), .int .u8 (k.team.2.1 : Int), .int .u8 (k.team.2.2 : Int)].toArray 142 (0, 0)) :: .blk b5 (.cells [.slice (some ⟨gA, 0, none⟩) ags.length cg, .int .u8 (used : Int)].toArray 75 (0, 0)) :: r :: (rws3.map Wk.res ++ T)) ?_ ?_
            · skip
              refine any_begin [] F.follows 14 rfl [false, false, false, false, false, false, false, false, false, false, false, false, false, false] rfl ?_
              refine any_take (listed' := [true, false, false, false, false, false, false, false, false, false, false, false, false, false].toArray) 0 rfl rfl rfl (by kernel_rfl) (by kernel_rfl) (by kernel_rfl) (by repeat (first | exact List.Sublist.refl _ | exact List.nil_sublist _ | refine List.Sublist.cons_cons _ ?_ | refine List.Sublist.cons _ ?_)) (yld_field_z rfl F.fi75_1 F.ti73) rfl ?_
              refine any_take (listed' := [true, true, false, false, false, false, false, false, false, false, false, false, false, false].toArray) 1 rfl rfl rfl (by kernel_rfl) (by kernel_rfl) (by kernel_rfl) (by repeat (first | exact List.Sublist.refl _ | exact List.nil_sublist _ | refine List.Sublist.cons_cons _ ?_ | refine List.Sublist.cons _ ?_)) (yld_load rfl F.one73) rfl ?_
              refine any_take (listed' := [true, true, true, false, false, false, false, false, false, false, false, false, false, false].toArray) 2 rfl rfl rfl (by kernel_rfl) (by kernel_rfl) (by kernel_rfl) (by repeat (first | exact List.Sublist.refl _ | exact List.nil_sublist _ | refine List.Sublist.cons_cons _ ?_ | refine List.Sublist.cons _ ?_)) (yld_move rfl) rfl ?_
              refine any_one (listed' := [true, true, true, true, false, false, false, false, false, false, false, false, false, false].toArray) 3 (by kernel_rfl) rfl rfl ?_
              refine lst_fn0 (vs := [_, _]) rfl rfl F.ent110 (fun a w ha => set_has_c used i hu w) ?_
              refine lst_nil ?_
              refine any_next (by repeat (first | exact List.Sublist.refl _ | exact List.nil_sublist _ | refine List.Sublist.cons_cons _ ?_ | refine List.Sublist.cons _ ?_)) ?_
              refine any_take (listed' := [true, true, true, true, true, false, false, false, false, false, false, false, false, false].toArray) 4 rfl rfl rfl (by kernel_rfl) (by kernel_rfl) (by kernel_rfl) (by repeat (first | exact List.Sublist.refl _ | exact List.nil_sublist _ | refine List.Sublist.cons_cons _ ?_ | refine List.Sublist.cons _ ?_)) (yld_not rfl) rfl ?_
              refine any_take (listed' := [true, true, true, true, true, true, false, false, false, false, false, false, false, false].toArray) 5 rfl rfl rfl (by kernel_rfl) (by kernel_rfl) (by kernel_rfl) (by repeat (first | exact List.Sublist.refl _ | exact List.nil_sublist _ | refine List.Sublist.cons_cons _ ?_ | refine List.Sublist.cons _ ?_)) (yld_move rfl) rfl ?_
              refine any_split_bool (t := 67) rfl (fun hg67 => ?_) (fun hg67 => ?_)
              · skip
                refine any_take_off (listed' := [true, true, true, true, true, true, true, false, false, false, false, false, false, false].toArray) 6 rfl rfl rfl rfl rfl (by kernel_rfl) (by kernel_rfl) (by kernel_rfl) (by repeat (first | exact List.Sublist.refl _ | exact List.nil_sublist _ | refine List.Sublist.cons_cons _ ?_ | refine List.Sublist.cons _ ?_)) rfl ?_
                refine any_take_off (listed' := [true, true, true, true, true, true, true, true, false, false, false, false, false, false].toArray) 7 rfl rfl rfl rfl rfl (by kernel_rfl) (by kernel_rfl) (by kernel_rfl) (by repeat (first | exact List.Sublist.refl _ | exact List.nil_sublist _ | refine List.Sublist.cons_cons _ ?_ | refine List.Sublist.cons _ ?_)) rfl ?_
                refine any_take_off (listed' := [true, true, true, true, true, true, true, true, true, false, false, false, false, false].toArray) 8 rfl rfl rfl rfl rfl (by kernel_rfl) (by kernel_rfl) (by kernel_rfl) (by repeat (first | exact List.Sublist.refl _ | exact List.nil_sublist _ | refine List.Sublist.cons_cons _ ?_ | refine List.Sublist.cons _ ?_)) rfl ?_
                refine any_take_off (listed' := [true, true, true, true, true, true, true, true, true, true, false, false, false, false].toArray) 9 rfl rfl rfl rfl rfl (by kernel_rfl) (by kernel_rfl) (by kernel_rfl) (by repeat (first | exact List.Sublist.refl _ | exact List.nil_sublist _ | refine List.Sublist.cons_cons _ ?_ | refine List.Sublist.cons _ ?_)) rfl ?_
                refine any_take_off (listed' := [true, true, true, true, true, true, true, true, true, true, true, false, false, false].toArray) 10 rfl rfl rfl rfl rfl (by kernel_rfl) (by kernel_rfl) (by kernel_rfl) (by repeat (first | exact List.Sublist.refl _ | exact List.nil_sublist _ | refine List.Sublist.cons_cons _ ?_ | refine List.Sublist.cons _ ?_)) rfl ?_
                refine any_take_off (listed' := [true, true, true, true, true, true, true, true, true, true, true, true, false, false].toArray) 11 rfl rfl rfl rfl rfl (by kernel_rfl) (by kernel_rfl) (by kernel_rfl) (by repeat (first | exact List.Sublist.refl _ | exact List.nil_sublist _ | refine List.Sublist.cons_cons _ ?_ | refine List.Sublist.cons _ ?_)) rfl ?_
                refine any_take_off (listed' := [true, true, true, true, true, true, true, true, true, true, true, true, true, false].toArray) 12 rfl rfl rfl rfl rfl (by kernel_rfl) (by kernel_rfl) (by kernel_rfl) (by repeat (first | exact List.Sublist.refl _ | exact List.nil_sublist _ | refine List.Sublist.cons_cons _ ?_ | refine List.Sublist.cons _ ?_)) rfl ?_
                refine any_take (listed' := [true, true, true, true, true, true, true, true, true, true, true, true, true, true].toArray) 13 rfl rfl rfl (by kernel_rfl) (by kernel_rfl) (by kernel_rfl) (by repeat (first | exact List.Sublist.refl _ | exact List.nil_sublist _ | refine List.Sublist.cons_cons _ ?_ | refine List.Sublist.cons _ ?_)) (yld_pick_true rfl rfl) rfl ?_
                refine any_done rfl (by kernel_rfl) ?_
                exact ex_ghost () trivial (Sub.cons (by simp at hg67; simp [look, hg67]) (by repeat (first | exact Sub.nil _ | refine Sub.cons rfl ?_))) (by repeat (first | exact Pck.nil _ | exact Pck.refl _ | (apply Pck.cons; focus ((repeat (first | exact Rem.here _ | apply Rem.there)); done)) | refine Pck.skip _ ?_))
              · skip
                refine any_take_on (listed' := [true, true, true, true, true, true, true, false, false, false, false, false, false, false].toArray) 6 rfl rfl rfl rfl rfl (by kernel_rfl) (by kernel_rfl) (by kernel_rfl) (by repeat (first | exact List.Sublist.refl _ | exact List.nil_sublist _ | refine List.Sublist.cons_cons _ ?_ | refine List.Sublist.cons _ ?_)) (yld_loadN rfl F.agg89 F.ti89) rfl ?_
                refine any_take_on (listed' := [true, true, true, true, true, true, true, true, false, false, false, false, false, false].toArray) 7 rfl rfl rfl rfl rfl (by kernel_rfl) (by kernel_rfl) (by kernel_rfl) (by repeat (first | exact List.Sublist.refl _ | exact List.nil_sublist _ | refine List.Sublist.cons_cons _ ?_ | refine List.Sublist.cons _ ?_)) (yld_move rfl) rfl ?_
                refine any_take_on (listed' := [true, true, true, true, true, true, true, true, true, false, false, false, false, false].toArray) 8 rfl rfl rfl rfl rfl (by kernel_rfl) (by kernel_rfl) (by kernel_rfl) (by repeat (first | exact List.Sublist.refl _ | exact List.nil_sublist _ | refine List.Sublist.cons_cons _ ?_ | refine List.Sublist.cons _ ?_)) (yld_field_z rfl F.fi142_1 F.ti79) rfl ?_
                refine any_take_on (listed' := [true, true, true, true, true, true, true, true, true, true, false, false, false, false].toArray) 9 rfl rfl rfl rfl rfl (by kernel_rfl) (by kernel_rfl) (by kernel_rfl) (by repeat (first | exact List.Sublist.refl _ | exact List.nil_sublist _ | refine List.Sublist.cons_cons _ ?_ | refine List.Sublist.cons _ ?_)) (yld_index_arr (j := _) rfl rfl Tryd.underlying79 F.ti77 rfl (by omega)) rfl ?_
                refine any_take_on (listed' := [true, true, true, true, true, true, true, true, true, true, true, false, false, false].toArray) 10 rfl rfl rfl rfl rfl (by kernel_rfl) (by kernel_rfl) (by kernel_rfl) (by repeat (first | exact List.Sublist.refl _ | exact List.nil_sublist _ | refine List.Sublist.cons_cons _ ?_ | refine List.Sublist.cons _ ?_)) (yld_load_at rfl F.one77 (fun a w ha => cell_of_blk (ha.mem_blk (InB.mem (b := b14))) (wk_get k hj3))) rfl ?_
                refine any_one (listed' := [true, true, true, true, true, true, true, true, true, true, true, true, false, false].toArray) 11 (by kernel_rfl) rfl rfl ?_
                refine lst_on rfl rfl ?_
                refine lst_fn0 (vs := [_, _]) rfl rfl F.ent85 (fun a w ha => may_c x (tget k.team j) hxo (by have := tget_lo hklo j; omega) w) ?_
                refine lst_nil ?_
                refine any_next (by repeat (first | exact List.Sublist.refl _ | exact List.nil_sublist _ | refine List.Sublist.cons_cons _ ?_ | refine List.Sublist.cons _ ?_)) ?_
                refine any_take_on (listed' := [true, true, true, true, true, true, true, true, true, true, true, true, true, false].toArray) 12 rfl rfl rfl rfl rfl (by kernel_rfl) (by kernel_rfl) (by kernel_rfl) (by repeat (first | exact List.Sublist.refl _ | exact List.nil_sublist _ | refine List.Sublist.cons_cons _ ?_ | refine List.Sublist.cons _ ?_)) (yld_not rfl) rfl ?_
                refine any_take (listed' := [true, true, true, true, true, true, true, true, true, true, true, true, true, true].toArray) 13 rfl rfl rfl (by kernel_rfl) (by kernel_rfl) (by kernel_rfl) (by repeat (first | exact List.Sublist.refl _ | exact List.nil_sublist _ | refine List.Sublist.cons_cons _ ?_ | refine List.Sublist.cons _ ?_)) (yld_pick_false rfl rfl) rfl ?_
                refine any_done rfl (by kernel_rfl) ?_
                exact ex_ghost () trivial (Sub.cons (by simp at hg67; simp [look, hg67]) (by repeat (first | exact Sub.nil _ | refine Sub.cons rfl ?_))) (by repeat (first | exact Pck.nil _ | exact Pck.refl _ | (apply Pck.cons; focus ((repeat (first | exact Rem.here _ | apply Rem.there)); done)) | refine Pck.skip _ ?_))
            · skip
              rintro ⟨⟩ -
              dsimp only
              refine ex_then ?_
              refine cod_cond_bool rfl (fun hc5 => ?_) (fun hc5 => ?_)
              · skip
                have hst : stepT ags used n k.team i = none := stepT_not hxd hj' (by cases h : (used.testBit i && mayN x (tget k.team j)) with
                  | false => rfl
                  | true => rw [h] at hc5; cases hc5)
                refine cod_exit ?_
                refine ex_then_exit ?_
                refine ex_block_other rfl ?_
                refine ex_then_exit ?_
                refine ex_then_exit ?_
                refine ex_block_other rfl ?_
                refine ex_then_exit ?_
                refine ex_block_exit ?_
                refine ex_then ?_
                refine cod_region ?_
                refine lst_int rfl rfl rfl (fun w => bin_add w (wrap_i64' _ (by omega) (by have := hok.1; omega))) ?_
                refine lst_move rfl rfl ?_
                refine lst_nil ?_
                refine ex_round' (A3, c3, full3, rws3, i + 1) ⟨hI3.skip_none hk3 hst, hk3, hkl3, hi'⟩ (by (try dsimp only); omega) (by (try dsimp only); repeat (first | exact Sub.nil _ | refine Sub.cons rfl ?_)) (by repeat (first | exact Pck.nil _ | exact Pck.refl _ | (apply Pck.cons; focus ((repeat (first | exact Rem.here _ | apply Rem.there)); done)) | refine Pck.skip _ ?_))
              · skip
                have hc5' : used.testBit i = true ∧ mayN x (tget k.team j) = true := by simpa using hc5
                refine cod_skip ?_
                refine ex_then ?_
                refine any_begin [.b b18] F.follows 9 rfl [false, false, false, false, false, false, false, false, false] rfl ?_
                refine any_take (listed' := [true, false, false, false, false, false, false, false, false].toArray) 0 rfl rfl rfl (by kernel_rfl) (by kernel_rfl) (by kernel_rfl) (by repeat (first | exact List.Sublist.refl _ | exact List.nil_sublist _ | refine List.Sublist.cons_cons _ ?_ | refine List.Sublist.cons _ ?_)) (yld_move rfl) rfl ?_
                refine any_take (listed' := [true, true, false, false, false, false, false, false, false].toArray) 1 rfl rfl rfl (by kernel_rfl) (by kernel_rfl) (by kernel_rfl) (by repeat (first | exact List.Sublist.refl _ | exact List.nil_sublist _ | refine List.Sublist.cons_cons _ ?_ | refine List.Sublist.cons _ ?_)) (yld_loadN rfl F.agg89 F.ti89) rfl ?_
                refine any_take (listed' := [true, true, true, false, false, false, false, false, false].toArray) 2 rfl rfl rfl (by kernel_rfl) (by kernel_rfl) (by kernel_rfl) (by repeat (first | exact List.Sublist.refl _ | exact List.nil_sublist _ | refine List.Sublist.cons_cons _ ?_ | refine List.Sublist.cons _ ?_)) (yld_move rfl) rfl ?_
                refine any_take (listed' := [true, true, true, true, false, false, false, false, false].toArray) 3 rfl rfl rfl (by kernel_rfl) (by kernel_rfl) (by kernel_rfl) (by repeat (first | exact List.Sublist.refl _ | exact List.nil_sublist _ | refine List.Sublist.cons_cons _ ?_ | refine List.Sublist.cons _ ?_)) (yld_field_z rfl F.fi142_1 F.ti79) rfl ?_
                refine any_take (listed' := [true, true, true, true, true, false, false, false, false].toArray) 4 rfl rfl rfl (by kernel_rfl) (by kernel_rfl) (by kernel_rfl) (by repeat (first | exact List.Sublist.refl _ | exact List.nil_sublist _ | refine List.Sublist.cons_cons _ ?_ | refine List.Sublist.cons _ ?_)) (yld_index_arr (j := _) rfl rfl Tryd.underlying79 F.ti77 rfl (by omega)) rfl ?_
                refine any_take (listed' := [true, true, true, true, true, true, false, false, false].toArray) 5 rfl rfl rfl (by kernel_rfl) (by kernel_rfl) (by kernel_rfl) (by repeat (first | exact List.Sublist.refl _ | exact List.nil_sublist _ | refine List.Sublist.cons_cons _ ?_ | refine List.Sublist.cons _ ?_)) (yld_load_at rfl F.one77 (fun a w ha => cell_of_blk (ha.mem_blk (InB.mem (b := b14))) (wk_get k hj3))) rfl ?_
                refine any_one (listed' := [true, true, true, true, true, true, true, false, false].toArray) 6 (by kernel_rfl) rfl rfl ?_
                refine lst_fn0 (vs := [_, _]) rfl rfl F.ent91 (fun a w ha => put_c x (tget k.team j) hxo (by have := tget_lo hklo j; omega) w) ?_
                refine lst_nil ?_
                refine any_next (by repeat (first | exact List.Sublist.refl _ | exact List.nil_sublist _ | refine List.Sublist.cons_cons _ ?_ | refine List.Sublist.cons _ ?_)) ?_
                refine any_take (listed' := [true, true, true, true, true, true, true, true, false].toArray) 7 rfl rfl rfl (by kernel_rfl) (by kernel_rfl) (by kernel_rfl) (by repeat (first | exact List.Sublist.refl _ | exact List.nil_sublist _ | refine List.Sublist.cons_cons _ ?_ | refine List.Sublist.cons _ ?_)) (yld_index_arr (j := _) rfl rfl Tryd.underlying79 F.ti77 rfl (by omega)) rfl ?_
                refine any_one (listed' := [true, true, true, true, true, true, true, true, true].toArray) 8 (by kernel_rfl) rfl rfl ?_
                refine lst_store_any rfl rfl F.ti77 (by show 0 + j * 1 < 3; omega) (tput_cells (putT x k.team j) hj3) UpB.upd ?_
                refine lst_nil ?_
                refine any_next (by repeat (first | exact List.Sublist.refl _ | exact List.nil_sublist _ | refine List.Sublist.cons_cons _ ?_ | refine List.Sublist.cons _ ?_)) ?_
                refine any_done rfl (by kernel_rfl) ?_
                refine ex_block_normal ?_
                refine ex_then ?_
                refine cod_region ?_
                refine lst_int rfl rfl rfl (fun w => bin_add w (wrap_i64' _ (by omega) (by omega))) ?_
                refine lst_move rfl rfl ?_
                refine lst_nil ?_
                refine ex_round' (j + 1) ⟨hj', fun _ => hc5'.1, by rw [mayT_succ, hmay, hc5'.2]; rfl⟩ (by (try dsimp only); omega) (by (try dsimp only); repeat (first | exact Sub.nil _ | refine Sub.cons rfl ?_)) (by repeat (first | exact Pck.nil _ | exact Pck.refl _ | (apply Pck.cons; focus ((repeat (first | exact Rem.here _ | apply Rem.there)); done)) | refine Pck.skip _ ?_))
          · skip
            obtain rfl : j = n := by omega
            have hst := stepT_some hi' hxd (hub (by omega)) hmay
            have hlo' := putT_lo hxo hklo j
            refine cod_exit ?_
            refine ex_then_exit ?_
            refine ex_then_exit ?_
            refine ex_block_exit ?_
            refine ex_then ?_
            refine cod_seq ?_
            refine cod_region ?_
            refine lst_loadN rfl rfl F.agg79 F.ti79 ?_
            refine lst_field_z rfl rfl F.fi142_1 F.ti79 ?_
            refine lst_loadN rfl rfl F.agg79 F.ti79 ?_
            refine lst_bin rfl rfl rfl (run_neq_team (t := putT x k.team j) (u := k.team) hlo'.ok hklo.ok _ _) ?_
            refine lst_nil ?_
            refine ex_then ?_
            refine cod_cond_dec rfl (fun hc6 => ?_) (fun hc6 => ?_)
            · skip
              refine cod_ghost (G := Option Addr × Nat × Option Addr × Nat) (fun _ => True) (fun _ => [(2, .int .i64 (j : Int)), (3, .int .i64 most), (4, .func (.func fid) ([] : List Value).toArray cap.toArray), (5, .pointer (some ⟨b5, 0, none⟩)), (12, .pointer (some ⟨b22, 0, none⟩)), (13, .func (.func 112) [.pointer (some ⟨b22, 0, none⟩)].toArray ([] : List Value).toArray), (14, .pointer (some ⟨b14, 0, none⟩)), (49, .slice (some ⟨gA, 0, none⟩) ags.length cg), (50, .int .i64 (ags.length : Int)), (51, .int .i64 (i : Int))]) (fun g => .blk b22 (.cells [.slice g.1 (pushT (full3.drop (kk + 1)) (full3.map Wk.team) (⟨g.2.2.1, g.2.2.2, k.how ++ [i], putT x k.team j⟩ : Wk)).length g.2.1, .map (some b20)].toArray 139 (0, 0)) :: .blk b20 (metObj (pushM (full3.map Wk.team) (putT x k.team j))) :: .que 142 4 g.1 (pushT (full3.drop (kk + 1)) (full3.map Wk.team) (⟨g.2.2.1, g.2.2.2, k.how ++ [i], putT x k.team j⟩ : Wk)).length g.2.1 ((pushT (full3.drop (kk + 1)) (full3.map Wk.team) (⟨g.2.2.1, g.2.2.2, k.how ++ [i], putT x k.team j⟩ : Wk)).flatMap Wk.cells) :: .blk b14 (.cells [.slice k.A k.how.length k.c, .int .u8 (k.team.1 : Int), .int .u8 (k.team.2.1 : Int), .int .u8 (k.team.2.2 : Int)].toArray 142 (0, 0)) :: .blk b5 (.cells [.slice (some ⟨gA, 0, none⟩) ags.length cg, .int .u8 (used : Int)].toArray 75 (0, 0)) :: r :: (((⟨g.2.2.1, g.2.2.2, k.how ++ [i], putT x k.team j⟩ : Wk) :: rws3).map Wk.res ++ T)) ?_ ?_
              · skip
                refine any_begin [.b b22, .b b20, .q A3] F.follows 11 rfl [false, false, false, false, false, false, false, false, false, false, false] rfl ?_
                refine any_take (listed' := [true, false, false, false, false, false, false, false, false, false, false].toArray) 0 rfl rfl rfl (by kernel_rfl) (by kernel_rfl) (by kernel_rfl) (by repeat (first | exact List.Sublist.refl _ | exact List.nil_sublist _ | refine List.Sublist.cons_cons _ ?_ | refine List.Sublist.cons _ ?_)) (yld_move rfl) rfl ?_
                refine any_take (listed' := [true, true, false, false, false, false, false, false, false, false, false].toArray) 1 rfl rfl rfl (by kernel_rfl) (by kernel_rfl) (by kernel_rfl) (by repeat (first | exact List.Sublist.refl _ | exact List.nil_sublist _ | refine List.Sublist.cons_cons _ ?_ | refine List.Sublist.cons _ ?_)) (yld_loadN rfl F.agg79 F.ti79) rfl ?_
                refine any_take (listed' := [true, true, true, false, false, false, false, false, false, false, false].toArray) 2 rfl rfl rfl (by kernel_rfl) (by kernel_rfl) (by kernel_rfl) (by repeat (first | exact List.Sublist.refl _ | exact List.nil_sublist _ | refine List.Sublist.cons_cons _ ?_ | refine List.Sublist.cons _ ?_)) (yld_field_z rfl F.fi142_0 F.ti25) rfl ?_
                refine any_take (listed' := [true, true, true, true, false, false, false, false, false, false, false].toArray) 3 rfl rfl rfl (by kernel_rfl) (by kernel_rfl) (by kernel_rfl) (by repeat (first | exact List.Sublist.refl _ | exact List.nil_sublist _ | refine List.Sublist.cons_cons _ ?_ | refine List.Sublist.cons _ ?_)) (yld_load rfl F.one25) rfl ?_
                refine any_take (listed' := [true, true, true, true, false, true, false, false, false, false, false].toArray) 5 rfl rfl rfl (by kernel_rfl) (by kernel_rfl) (by kernel_rfl) (by repeat (first | exact List.Sublist.refl _ | exact List.nil_sublist _ | refine List.Sublist.cons_cons _ ?_ | refine List.Sublist.cons _ ?_)) (yld_move rfl) rfl ?_
                refine any_take (listed' := [true, true, true, true, false, true, false, false, true, false, false].toArray) 8 rfl rfl rfl (by kernel_rfl) (by kernel_rfl) (by kernel_rfl) (by repeat (first | exact List.Sublist.refl _ | exact List.nil_sublist _ | refine List.Sublist.cons_cons _ ?_ | refine List.Sublist.cons _ ?_)) (yld_loadN rfl F.agg79 F.ti79) rfl ?_
                refine any_two (l1 := [true, true, true, true, true, true, false, false, true, false, false].toArray) (l2 := [true, true, true, true, false, true, true, false, true, false, false].toArray) 4 6 (by kernel_rfl) rfl rfl rfl rfl ?_ ?_
                · skip
                  have hkr := hI3.rows k (List.mem_of_getElem? hk3)
                  have hhow := hI3.lens _ _ hk3
                  have hkn : (k.how ++ [i]).length = k.how.length + 1 := by simp
                  refine lst_fn (X := Option Addr × Nat) (vs := [_]) (p := fun _ => True) (val := fun x => .slice x.1 k.how.length x.2) (rs := fun x => [.row 3 1 x.1 k.how.length x.2 (ints k.how)]) rfl rfl F.ent114 (fun a w ha => (clone_c k.A k.c k.how (by omega) (fun h => List.eq_nil_of_length_eq_zero (row_nil ha (e := 3) (size := 1) (n := k.how.length) (c := k.c) (xs := ints k.how) (by simp; exact .inr (.inl ⟨k, hkr, rfl⟩)) h)) w (row_reads ha (cells := ncell) (size := 1) (e := 3) (c := k.c) (n := k.how.length) (fun _ => rfl) (by rw [← ints_flat]; simp; exact .inr (.inl ⟨k, hkr, rfl⟩)) rfl)).mono (fun e w' h => by obtain ⟨A', c', h1, h2⟩ := h; exact ⟨(A', c'), trivial, h1, h2⟩)) ?_
                  rintro ⟨Ac, cc⟩ -
                  dsimp only [List.cons_append, List.nil_append]
                  refine lst_nil ?_
                  refine any_next (by repeat (first | exact List.Sublist.refl _ | exact List.nil_sublist _ | refine List.Sublist.cons_cons _ ?_ | refine List.Sublist.cons _ ?_)) ?_
                  refine any_one (listed' := [true, true, true, true, true, true, true, false, true, false, false].toArray) 6 (by kernel_rfl) rfl rfl ?_
                  refine lst_lit (vs := [(0, _)]) rfl rfl Tryd.underlying25 F.ti3 rfl rfl rfl ?_
                  intro b95
                  refine lst_nil ?_
                  refine any_next (by repeat (first | exact List.Sublist.refl _ | exact List.nil_sublist _ | refine List.Sublist.cons_cons _ ?_ | refine List.Sublist.cons _ ?_)) ?_
                  refine any_one (listed' := [true, true, true, true, true, true, true, true, true, false, false].toArray) 7 (by kernel_rfl) rfl rfl ?_
                  refine lst_append rfl rfl rfl Tryd.underlying25 F.ti3 rfl rfl rfl (by unfold maxLen; omega) (by omega) ?_
                  intro An cn
                  refine lst_nil ?_
                  refine any_next (by repeat (first | exact List.Sublist.refl _ | exact List.nil_sublist _ | refine List.Sublist.cons_cons _ ?_ | refine List.Sublist.cons _ ?_)) ?_
                  refine any_take (listed' := [true, true, true, true, true, true, true, true, true, true, false].toArray) 9 rfl rfl rfl (by kernel_rfl) (by kernel_rfl) (by kernel_rfl) (by repeat (first | exact List.Sublist.refl _ | exact List.nil_sublist _ | refine List.Sublist.cons_cons _ ?_ | refine List.Sublist.cons _ ?_)) (yld_struct (vs := [(0, _), (1, _)]) (l' := [_, _, _, _]) rfl F.ti142 F.pl142 (.cons rfl rfl (.cons rfl rfl (.nil _))) rfl) rfl ?_
                  refine any_one (listed' := [true, true, true, true, true, true, true, true, true, true, true].toArray) 10 (by kernel_rfl) rfl rfl ?_
                  refine lst_call (X := Option Addr × Nat) (first := [.pointer (some ⟨b22, 0, none⟩)]) (cap := []) (vs := [_, _]) (p := fun _ => True) (val := fun _ => .tuple #[]) (rs := fun y => .blk b22 (.cells [.slice y.1 (pushT (full3.drop (kk + 1)) (full3.map Wk.team) (⟨An, cn, k.how ++ [i], putT x k.team j⟩ : Wk)).length y.2, .map (some b20)].toArray 139 (0, 0)) :: .blk b20 (metObj (pushM (full3.map Wk.team) (putT x k.team j))) :: .que 142 4 y.1 (pushT (full3.drop (kk + 1)) (full3.map Wk.team) (⟨An, cn, k.how ++ [i], putT x k.team j⟩ : Wk)).length y.2 ((pushT (full3.drop (kk + 1)) (full3.map Wk.team) (⟨An, cn, k.how ++ [i], putT x k.team j⟩ : Wk)).flatMap Wk.cells) :: .blk b18 (.cells [.int .u8 ((putT x k.team j).1 : Int), .int .u8 ((putT x k.team j).2.1 : Int), .int .u8 ((putT x k.team j).2.2 : Int)].toArray 79 (0, 0)) :: .blk b17 (.cells [.int .i64 (x.needs : Int), .int .i64 (x.no : Int), .int .i64 (x.takes : Int), .int .i64 (x.leaves : Int), .int .i64 (x.cost : Int)].toArray 89 (0, 0)) :: .blk b14 (.cells [.slice k.A k.how.length k.c, .int .u8 (k.team.1 : Int), .int .u8 (k.team.2.1 : Int), .int .u8 (k.team.2.2 : Int)].toArray 142 (0, 0)) :: .blk b5 (.cells [.slice (some ⟨gA, 0, none⟩) ags.length cg, .int .u8 (used : Int)].toArray 75 (0, 0)) :: r :: .row 3 1 An (k.how.length + 1) cn (ints k.how ++ [.int .i64 (i : Int)]) :: (rws3.map Wk.res ++ T)) rfl rfl rfl F.ent112 (fun a w ha => by
                    have h := push_c (bq := b22) (bm := b20) (A := A3) (c := c3) (todo := full3.drop (kk + 1)) (met := full3.map Wk.team) (k := (⟨An, cn, k.how ++ [i], putT x k.team j⟩ : Wk)) (T := .blk b18 (.cells [.int .u8 ((putT x k.team j).1 : Int), .int .u8 ((putT x k.team j).2.1 : Int), .int .u8 ((putT x k.team j).2.2 : Int)].toArray 79 (0, 0)) :: .blk b17 (.cells [.int .i64 (x.needs : Int), .int .i64 (x.no : Int), .int .i64 (x.takes : Int), .int .i64 (x.leaves : Int), .int .i64 (x.cost : Int)].toArray 89 (0, 0)) :: .blk b14 (.cells [.slice k.A k.how.length k.c, .int .u8 (k.team.1 : Int), .int .u8 (k.team.2.1 : Int), .int .u8 (k.team.2.2 : Int)].toArray 142 (0, 0)) :: .blk b5 (.cells [.slice (some ⟨gA, 0, none⟩) ags.length cg, .int .u8 (used : Int)].toArray 75 (0, 0)) :: r :: .row 3 1 An (k.how.length + 1) cn (ints k.how ++ [.int .i64 (i : Int)]) :: (rws3.map Wk.res ++ T)) rfl (by simp; omega) (fun u hu => by obtain ⟨v, hv, rfl⟩ := List.mem_map.1 hu; exact (hI3.lo v hv).ok) hlo'.ok (ha.pck (by repeat (first | exact Pck.nil _ | exact Pck.refl _ | (apply Pck.cons; focus ((repeat (first | exact Rem.here _ | apply Rem.there)); done)) | refine Pck.skip _ ?_)))
                    dsimp only at h
                    rw [hkn] at h
                    exact h.mono (fun e w' h => by obtain ⟨A', c', h1, h2⟩ := h; exact ⟨(A', c'), trivial, h1, h2⟩)) ?_
                  rintro ⟨A4, c4⟩ -
                  dsimp only
                  refine lst_nil ?_
                  refine any_next (by repeat (first | exact List.Sublist.refl _ | exact List.nil_sublist _ | refine List.Sublist.cons_cons _ ?_ | refine List.Sublist.cons _ ?_)) ?_
                  refine any_done rfl (by kernel_rfl) ?_
                  exact ex_ghost (A4, c4, An, cn) trivial (by repeat (first | exact Sub.nil _ | refine Sub.cons rfl ?_)) (by simp only [List.map_cons, List.cons_append, Wk.res, hkn, ints_snoc]; repeat (first | exact Pck.nil _ | exact Pck.refl _ | exact Pck.suffix _ _ | (apply Pck.cons; focus ((repeat (first | exact Rem.here _ | apply Rem.there)); done)) | refine Pck.skip _ ?_))
                · skip
                  refine lst_lit (vs := [(0, _)]) rfl rfl Tryd.underlying25 F.ti3 rfl rfl rfl ?_
                  intro b95
                  refine lst_nil ?_
                  refine any_next (by repeat (first | exact List.Sublist.refl _ | exact List.nil_sublist _ | refine List.Sublist.cons_cons _ ?_ | refine List.Sublist.cons _ ?_)) ?_
                  refine any_one (listed' := [true, true, true, true, true, true, true, false, true, false, false].toArray) 4 (by kernel_rfl) rfl rfl ?_
                  have hkr := hI3.rows k (List.mem_of_getElem? hk3)
                  have hhow := hI3.lens _ _ hk3
                  have hkn : (k.how ++ [i]).length = k.how.length + 1 := by simp
                  refine lst_fn (X := Option Addr × Nat) (vs := [_]) (p := fun _ => True) (val := fun x => .slice x.1 k.how.length x.2) (rs := fun x => [.row 3 1 x.1 k.how.length x.2 (ints k.how)]) rfl rfl F.ent114 (fun a w ha => (clone_c k.A k.c k.how (by omega) (fun h => List.eq_nil_of_length_eq_zero (row_nil ha (e := 3) (size := 1) (n := k.how.length) (c := k.c) (xs := ints k.how) (by simp; exact .inr (.inl ⟨k, hkr, rfl⟩)) h)) w (row_reads ha (cells := ncell) (size := 1) (e := 3) (c := k.c) (n := k.how.length) (fun _ => rfl) (by rw [← ints_flat]; simp; exact .inr (.inl ⟨k, hkr, rfl⟩)) rfl)).mono (fun e w' h => by obtain ⟨A', c', h1, h2⟩ := h; exact ⟨(A', c'), trivial, h1, h2⟩)) ?_
                  rintro ⟨Ac, cc⟩ -
                  dsimp only [List.cons_append, List.nil_append]
                  refine lst_nil ?_
                  refine any_next (by repeat (first | exact List.Sublist.refl _ | exact List.nil_sublist _ | refine List.Sublist.cons_cons _ ?_ | refine List.Sublist.cons _ ?_)) ?_
                  refine any_one (listed' := [true, true, true, true, true, true, true, true, true, false, false].toArray) 7 (by kernel_rfl) rfl rfl ?_
                  refine lst_append rfl rfl rfl Tryd.underlying25 F.ti3 rfl rfl rfl (by unfold maxLen; omega) (by omega) ?_
                  intro An cn
                  refine lst_nil ?_
                  refine any_next (by repeat (first | exact List.Sublist.refl _ | exact List.nil_sublist _ | refine List.Sublist.cons_cons _ ?_ | refine List.Sublist.cons _ ?_)) ?_
                  refine any_take (listed' := [true, true, true, true, true, true, true, true, true, true, false].toArray) 9 rfl rfl rfl (by kernel_rfl) (by kernel_rfl) (by kernel_rfl) (by repeat (first | exact List.Sublist.refl _ | exact List.nil_sublist _ | refine List.Sublist.cons_cons _ ?_ | refine List.Sublist.cons _ ?_)) (yld_struct (vs := [(0, _), (1, _)]) (l' := [_, _, _, _]) rfl F.ti142 F.pl142 (.cons rfl rfl (.cons rfl rfl (.nil _))) rfl) rfl ?_
                  refine any_one (listed' := [true, true, true, true, true, true, true, true, true, true, true].toArray) 10 (by kernel_rfl) rfl rfl ?_
                  refine lst_call (X := Option Addr × Nat) (first := [.pointer (some ⟨b22, 0, none⟩)]) (cap := []) (vs := [_, _]) (p := fun _ => True) (val := fun _ => .tuple #[]) (rs := fun y => .blk b22 (.cells [.slice y.1 (pushT (full3.drop (kk + 1)) (full3.map Wk.team) (⟨An, cn, k.how ++ [i], putT x k.team j⟩ : Wk)).length y.2, .map (some b20)].toArray 139 (0, 0)) :: .blk b20 (metObj (pushM (full3.map Wk.team) (putT x k.team j))) :: .que 142 4 y.1 (pushT (full3.drop (kk + 1)) (full3.map Wk.team) (⟨An, cn, k.how ++ [i], putT x k.team j⟩ : Wk)).length y.2 ((pushT (full3.drop (kk + 1)) (full3.map Wk.team) (⟨An, cn, k.how ++ [i], putT x k.team j⟩ : Wk)).flatMap Wk.cells) :: .blk b18 (.cells [.int .u8 ((putT x k.team j).1 : Int), .int .u8 ((putT x k.team j).2.1 : Int), .int .u8 ((putT x k.team j).2.2 : Int)].toArray 79 (0, 0)) :: .blk b17 (.cells [.int .i64 (x.needs : Int), .int .i64 (x.no : Int), .int .i64 (x.takes : Int), .int .i64 (x.leaves : Int), .int .i64 (x.cost : Int)].toArray 89 (0, 0)) :: .blk b14 (.cells [.slice k.A k.how.length k.c, .int .u8 (k.team.1 : Int), .int .u8 (k.team.2.1 : Int), .int .u8 (k.team.2.2 : Int)].toArray 142 (0, 0)) :: .blk b5 (.cells [.slice (some ⟨gA, 0, none⟩) ags.length cg, .int .u8 (used : Int)].toArray 75 (0, 0)) :: r :: .row 3 1 An (k.how.length + 1) cn (ints k.how ++ [.int .i64 (i : Int)]) :: (rws3.map Wk.res ++ T)) rfl rfl rfl F.ent112 (fun a w ha => by
                    have h := push_c (bq := b22) (bm := b20) (A := A3) (c := c3) (todo := full3.drop (kk + 1)) (met := full3.map Wk.team) (k := (⟨An, cn, k.how ++ [i], putT x k.team j⟩ : Wk)) (T := .blk b18 (.cells [.int .u8 ((putT x k.team j).1 : Int), .int .u8 ((putT x k.team j).2.1 : Int), .int .u8 ((putT x k.team j).2.2 : Int)].toArray 79 (0, 0)) :: .blk b17 (.cells [.int .i64 (x.needs : Int), .int .i64 (x.no : Int), .int .i64 (x.takes : Int), .int .i64 (x.leaves : Int), .int .i64 (x.cost : Int)].toArray 89 (0, 0)) :: .blk b14 (.cells [.slice k.A k.how.length k.c, .int .u8 (k.team.1 : Int), .int .u8 (k.team.2.1 : Int), .int .u8 (k.team.2.2 : Int)].toArray 142 (0, 0)) :: .blk b5 (.cells [.slice (some ⟨gA, 0, none⟩) ags.length cg, .int .u8 (used : Int)].toArray 75 (0, 0)) :: r :: .row 3 1 An (k.how.length + 1) cn (ints k.how ++ [.int .i64 (i : Int)]) :: (rws3.map Wk.res ++ T)) rfl (by simp; omega) (fun u hu => by obtain ⟨v, hv, rfl⟩ := List.mem_map.1 hu; exact (hI3.lo v hv).ok) hlo'.ok (ha.pck (by repeat (first | exact Pck.nil _ | exact Pck.refl _ | (apply Pck.cons; focus ((repeat (first | exact Rem.here _ | apply Rem.there)); done)) | refine Pck.skip _ ?_)))
                    dsimp only at h
                    rw [hkn] at h
                    exact h.mono (fun e w' h => by obtain ⟨A', c', h1, h2⟩ := h; exact ⟨(A', c'), trivial, h1, h2⟩)) ?_
                  rintro ⟨A4, c4⟩ -
                  dsimp only
                  refine lst_nil ?_
                  refine any_next (by repeat (first | exact List.Sublist.refl _ | exact List.nil_sublist _ | refine List.Sublist.cons_cons _ ?_ | refine List.Sublist.cons _ ?_)) ?_
                  refine any_done rfl (by kernel_rfl) ?_
                  exact ex_ghost (A4, c4, An, cn) trivial (by repeat (first | exact Sub.nil _ | refine Sub.cons rfl ?_)) (by simp only [List.map_cons, List.cons_append, Wk.res, hkn, ints_snoc]; repeat (first | exact Pck.nil _ | exact Pck.refl _ | exact Pck.suffix _ _ | (apply Pck.cons; focus ((repeat (first | exact Rem.here _ | apply Rem.there)); done)) | refine Pck.skip _ ?_))
              · skip
                rintro ⟨A4, c4, An, cn⟩ -
                dsimp only
                refine ex_block_normal ?_
                refine ex_then ?_
                refine cod_region ?_
                refine lst_int rfl rfl rfl (fun w => bin_add w (wrap_i64' _ (by omega) (by have := hok.1; omega))) ?_
                refine lst_move rfl rfl ?_
                refine lst_nil ?_
                have hI' := hI3.push (kn := (⟨An, cn, k.how ++ [i], putT x k.team j⟩ : Wk)) hk3 hi' hst rfl hc2 hlo'
                refine ex_round' (A4, c4, pushF full3 (⟨An, cn, k.how ++ [i], putT x k.team j⟩ : Wk), (⟨An, cn, k.how ++ [i], putT x k.team j⟩ : Wk) :: rws3, i + 1) ⟨hI', pushF_get hk3, (List.getElem?_eq_some_iff.1 (pushF_get hk3)).1, hi'⟩ (by (try dsimp only); omega) (by (try dsimp only); repeat (first | exact Sub.nil _ | refine Sub.cons rfl ?_)) (by dsimp only; rw [pushF_drop (by omega), pushF_map]; repeat (first | exact Pck.nil _ | exact Pck.refl _ | exact Pck.suffix _ _ | (apply Pck.cons; focus ((repeat (first | exact Rem.here _ | apply Rem.there)); done)) | refine Pck.skip _ ?_))
            · skip
              have hsame : putT x k.team j = k.team := Classical.not_not.1 hc6
              rw [hsame] at hst
              refine cod_skip ?_
              refine ex_block_normal ?_
              refine ex_then ?_
              refine cod_region ?_
              refine lst_int rfl rfl rfl (fun w => bin_add w (wrap_i64' _ (by omega) (by have := hok.1; omega))) ?_
              refine lst_move rfl rfl ?_
              refine lst_nil ?_
              refine ex_round' (A3, c3, full3, rws3, i + 1) ⟨hI3.same hk3 hst, hk3, hkl3, hi'⟩ (by (try dsimp only); omega) (by (try dsimp only); repeat (first | exact Sub.nil _ | refine Sub.cons rfl ?_)) (by repeat (first | exact Pck.nil _ | exact Pck.refl _ | (apply Pck.cons; focus ((repeat (first | exact Rem.here _ | apply Rem.there)); done)) | refine Pck.skip _ ?_))
        · skip
          refine cod_exit ?_
          refine ex_then_exit ?_
          refine ex_then_exit ?_
          refine ex_block_exit ?_
          refine ex_scope_normal ?_
          refine ex_block_normal ?_
          obtain rfl : i = ags.length := by omega
          have hI' := hI3.next hk3 hc1
          have hlen3 := hI3.len
          refine ex_round' (A3, c3, full3, kk + 1, rws3) hI' (by (try dsimp only); omega) (by (try dsimp only); repeat (first | exact Sub.nil _ | refine Sub.cons rfl ?_)) (by repeat (first | exact Pck.nil _ | exact Pck.refl _ | (apply Pck.cons; focus ((repeat (first | exact Rem.here _ | apply Rem.there)); done)) | refine Pck.skip _ ?_))

end Go.Proofs.YtofkhehcnfiopaaDoor.N
