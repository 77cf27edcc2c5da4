/- Parts of the walks of the laws on fining, those that FiningPuts needs: F34, All, Eqa, Icell, F35, Sx11, F36, Puts, Puts2. -/
import Derived.Test.YtofkhehcnfiopaaDoorSFiningPuts07
import Derived.Test.YtofkhehcnfiopaaDoorProg
import Derived.DeepKeys3
import Derived.Test.YtofkhehcnfiopaaDoorSFiningPuts05
namespace Go.Proofs.YtofkhehcnfiopaaDoor.N
open Go Go.RowKit Go.Proofs

theorem Idle_ok (A : Option Addr) (c : Nat) (ags : List Ag) (hok : Oks ags) (f : Nat) (hf : f < 64) (w : World) (hA : RdL Ag.cells 5 w A ags) : Calls Tryd.prog 48 #[.slice A ags.length c, .int .i64 (f : Int)] w fun e w' => ∃ A' c', e = .returned (.tuple #[.slice A' (idleL ags f (canTo ags (usedAll ags.length) f ags.length)).length c', .int .i64 0]) ∧ Grew w w' [.row 3 1 A' (idleL ags f (canTo ags (usedAll ags.length) f ags.length)).length c' (ints (idleL ags f (canTo ags (usedAll ags.length) f ags.length)))] := by
  have hua : usedAll ags.length < 256 := by have := usedAll_lt hok.1; omega
  refine enter_defers (N := 37) [(0, .slice A ags.length c), (1, .int .i64 (f : Int))] Tryd.func48 rfl Tryd.ntmps48 rfl rfl ?_
  refine cod_seq ?_
  refine cod_region ?_
  refine lst_assign rfl rfl ?_
  refine lst_alloc rfl F.ti35 ?_
  intro b5
  refine lst_nil ?_
  refine ex_then ?_
  refine cod_seq ?_
  refine cod_region ?_
  refine lst_defer (first := []) (cap := []) (vs := [_]) rfl rfl ?_
  refine lst_nil ?_
  refine ex_then ?_
  refine cod_seq ?_
  refine cod_region ?_
  refine lst_move rfl rfl ?_
  refine lst_fn (X := Option Addr × Nat) (vs := [_]) (p := fun _ => True) (val := fun x => .agg [.slice x.1 ags.length x.2, .int .u8 (usedAll ags.length : Nat)].toArray) (rs := fun x => [.row 89 5 x.1 ags.length x.2 (ags.flatMap Ag.cells)]) rfl rfl F.ent75 (fun a w ha => (begin_ok A c ags hok w (hA.later ha.below)).mono (fun e w' h => by obtain ⟨A', c', h1, h2⟩ := h; exact ⟨(A', c'), trivial, h1, h2⟩)) ?_
  rintro ⟨aA, cg⟩ -
  dsimp only [List.cons_append, List.nil_append]
  refine lst_know (φ := 0 < ags.length → ∃ g, aA = some ⟨g, 0, none⟩) (fun a w ha h => row_some (ha.own (.row 89 5 aA ags.length cg (ags.flatMap Ag.cells)) (by simp)) h) (fun hsome => ?_)
  refine lst_alloc rfl F.ti75 ?_
  intro b6
  refine lst_store rfl rfl F.ti75 rfl ?_
  refine lst_nil ?_
  refine ex_then ?_
  refine cod_seq ?_
  refine cod_region ?_
  refine lst_move rfl rfl ?_
  refine lst_fn0 (vs := [_]) rfl rfl F.ent76 (fun a w ha => melt_ok f hf w) ?_
  refine lst_assign rfl rfl ?_
  refine lst_nil ?_
  refine ex_then ?_
  refine cod_seq ?_
  refine cod_seq ?_
  refine cod_region ?_
  refine lst_loadN rfl rfl F.agg75 F.ti75 ?_
  refine lst_move rfl rfl ?_
  refine lst_fn (X := Option Addr × Nat) (vs := [_, _]) (p := fun _ => True) (val := fun x => .slice x.1 (canTo ags (usedAll ags.length) f ags.length).length x.2) (rs := fun x => [.row 3 1 x.1 (canTo ags (usedAll ags.length) f ags.length).length x.2 (ints (canTo ags (usedAll ags.length) f ags.length))]) rfl rfl F.ent89 (fun a w ha => (can_c aA cg ags (usedAll ags.length) f hok hua (by omega) w (row_reads ha (cells := Ag.cells) (e := 89) (c := cg) (n := ags.length) (fun _ => rfl) (by simp) rfl)).mono (fun e w' h => by obtain ⟨A', c', h1, h2⟩ := h; exact ⟨(A', c'), trivial, h1, h2⟩)) ?_
  rintro ⟨cA, cc⟩ -
  dsimp only [List.cons_append, List.nil_append]
  refine lst_len rfl rfl Tryd.underlying25 ?_
  refine lst_move rfl rfl ?_
  refine lst_nil ?_
  refine ex_then ?_
  refine cod_block ?_
  refine cod_nil 3 1 ?_
  refine cod_loop (G := Nat × Option Addr × Nat) (fun g => g.1 ≤ (canTo ags (usedAll ags.length) f ags.length).length) (fun g => (canTo ags (usedAll ags.length) f ags.length).length - g.1) (fun g => [(4, .slice g.2.1 (idleL ags f ((canTo ags (usedAll ags.length) f ags.length).take g.1)).length g.2.2), (5, .pointer (some ⟨b5, 0, none⟩)), (6, .pointer (some ⟨b6, 0, none⟩)), (7, .int .u8 (f : Int)), (16, .slice cA (canTo ags (usedAll ags.length) f ags.length).length cc), (17, .int .i64 ((canTo ags (usedAll ags.length) f ags.length).length : Int)), (18, .int .i64 (g.1 : Int))]) (fun g => .row 3 1 g.2.1 (idleL ags f ((canTo ags (usedAll ags.length) f ags.length).take g.1)).length g.2.2 (ints (idleL ags f ((canTo ags (usedAll ags.length) f ags.length).take g.1))) :: .row 3 1 cA (canTo ags (usedAll ags.length) f ags.length).length cc (ints (canTo ags (usedAll ags.length) f ags.length)) :: .blk b6 (.cells [.slice aA ags.length cg, .int .u8 (usedAll ags.length : Nat)].toArray 75 (0, 0)) :: .row 89 5 aA ags.length cg (ags.flatMap Ag.cells) :: [.blk b5 (.cells [.int .i64 0].toArray 35 (0, 0))]) (0, none, 0) (Nat.zero_le _) (by repeat (first | exact Sub.nil _ | refine Sub.cons rfl ?_)) (by repeat (first | exact List.Sublist.refl _ | exact List.nil_sublist _ | refine List.Sublist.cons_cons _ ?_ | refine List.Sublist.cons _ ?_)) ?_
  rintro ⟨k, A1, c1⟩ hk
  (try dsimp only at hk ⊢)
  refine cod_seq ?_
  refine cod_region ?_
  refine lst_int rfl rfl rfl bin_lss ?_
  refine lst_nil ?_
  refine ex_then ?_
  refine cod_seq ?_
  refine cod_cond_dec rfl (fun hc0 => ?_) (fun hc0 => ?_)
  · skip
    have ht' : k < (canTo ags (usedAll ags.length) f ags.length).length := by omega
    obtain ⟨i, hci⟩ : ∃ i, (canTo ags (usedAll ags.length) f ags.length)[k]? = some i := ⟨_, List.getElem?_eq_getElem ht'⟩
    obtain ⟨hi', _, _⟩ := canTo_mem (List.mem_of_getElem? hci)
    have hol := hok.1
    obtain ⟨gA, hgA⟩ : ∃ g, aA = some ⟨g, 0, none⟩ := hsome (by omega)
    subst hgA
    obtain ⟨x, hx⟩ : ∃ x, ags[i]? = some x := ⟨_, List.getElem?_eq_getElem hi'⟩
    have hxo : x.ok := hok.2 x (List.mem_of_getElem? hx)
    have hxd : ags.getD i default = x := by rw [List.getD_eq_getElem?_getD, hx]; rfl
    have hcl := canTo_len ags (usedAll ags.length) f ags.length
    have hsl : (idleL ags f ((canTo ags (usedAll ags.length) f ags.length).take k)).length ≤ 4 := by have := idleL_len ags f ((canTo ags (usedAll ags.length) f ags.length).take k); rw [List.length_take] at this; omega
    refine cod_skip ?_
    refine ex_then ?_
    refine cod_seq ?_
    refine cod_block ?_
    refine cod_seq ?_
    refine cod_region ?_
    refine lst_index_row (j := k) rfl rfl rfl Tryd.underlying25 F.ti3 rfl ht' rfl rfl ?_
    intro gC hgC
    refine lst_load_row (v := .int .i64 (i : Int)) rfl rfl F.one3 hgC (ints_get hci) ?_
    refine lst_assign rfl rfl ?_
    refine lst_nil ?_
    refine ex_then ?_
    refine cod_seq ?_
    refine cod_region ?_
    refine lst_field_z rfl rfl F.fi75_0 F.ti72 ?_
    refine lst_load rfl rfl F.one72 ?_
    refine lst_move rfl rfl ?_
    refine lst_index (j := i) rfl rfl rfl Tryd.underlying72 F.ti89 rfl hi' ?_
    refine lst_loadN_at (l := [.int .i64 (x.needs : Int), .int .i64 (x.no : Int), .int .i64 (x.takes : Int), .int .i64 (x.leaves : Int), .int .i64 (x.cost : Int)]) rfl rfl F.agg89 F.ti89 rfl (fun a w ha j u hu => row_at ha (e := 89) (n := ags.length) (c := cg) (cells := Ag.cells) (by simp) (fun _ => rfl) hx hu) ?_
    refine lst_move rfl rfl ?_
    refine lst_fn0 (vs := [_, _]) rfl rfl F.ent91 (fun a w ha => put_c x f hxo (by omega) w) ?_
    refine lst_move rfl rfl ?_
    refine lst_int rfl rfl rfl bin_eql ?_
    refine lst_nil ?_
    refine ex_then ?_
    refine cod_cond_dec rfl (fun hc1 => ?_) (fun hc1 => ?_)
    · skip
      refine cod_region ?_
      refine lst_move rfl rfl ?_
      refine lst_move rfl rfl ?_
      refine lst_lit (vs := [(0, _)]) rfl rfl Tryd.underlying25 F.ti3 rfl rfl rfl ?_
      intro b33
      refine lst_append rfl rfl rfl Tryd.underlying25 F.ti3 rfl rfl rfl (by unfold maxLen; omega) (by omega) ?_
      intro A2 c2
      refine lst_assign rfl rfl ?_
      refine lst_nil ?_
      refine ex_block_normal ?_
      refine ex_then ?_
      refine cod_region ?_
      refine lst_int rfl rfl rfl (fun w => bin_add w (wrap_i64' _ (by omega) (by omega))) ?_
      refine lst_move rfl rfl ?_
      refine lst_nil ?_
      have e : (idleL ags f ((canTo ags (usedAll ags.length) f ags.length).take (k + 1))) = (idleL ags f ((canTo ags (usedAll ags.length) f ags.length).take k)) ++ [i] := by rw [List.take_add_one, hci]; exact (idleL_snoc _ _ _ _).trans (by rw [hxd, if_pos (by omega)])
      refine ex_round (k + 1, A2, c2) (by (try dsimp only); omega) (by (try dsimp only); omega) (by (try dsimp only); (try rw [e]); simp only [List.length_append, List.length_singleton]; repeat (first | exact Sub.nil _ | refine Sub.cons rfl ?_)) (by (try dsimp only); (try rw [e]); simp only [ints_snoc, List.length_append, List.length_singleton]; repeat (first | exact List.Sublist.refl _ | exact List.nil_sublist _ | refine List.Sublist.cons_cons _ ?_ | refine List.Sublist.cons _ ?_))
    · skip
      refine cod_skip ?_
      refine ex_block_normal ?_
      refine ex_then ?_
      refine cod_region ?_
      refine lst_int rfl rfl rfl (fun w => bin_add w (wrap_i64' _ (by omega) (by omega))) ?_
      refine lst_move rfl rfl ?_
      refine lst_nil ?_
      have e : (idleL ags f ((canTo ags (usedAll ags.length) f ags.length).take (k + 1))) = (idleL ags f ((canTo ags (usedAll ags.length) f ags.length).take k)) := by rw [List.take_add_one, hci]; exact (idleL_snoc _ _ _ _).trans (by rw [hxd, if_neg (by omega), List.append_nil])
      refine ex_round (k + 1, A1, c1) (by (try dsimp only); omega) (by (try dsimp only); omega) (by (try dsimp only); (try rw [e]); repeat (first | exact Sub.nil _ | refine Sub.cons rfl ?_)) (by (try dsimp only); (try rw [e]); repeat (first | exact List.Sublist.refl _ | exact List.nil_sublist _ | refine List.Sublist.cons_cons _ ?_ | refine List.Sublist.cons _ ?_))
  · skip
    obtain rfl : k = (canTo ags (usedAll ags.length) f ags.length).length := by omega
    rw [List.take_length]
    refine cod_exit ?_
    refine ex_then_exit ?_
    refine ex_then_exit ?_
    refine ex_block_exit ?_
    refine ex_then ?_
    refine cod_seq ?_
    refine cod_region ?_
    refine lst_move rfl rfl ?_
    refine lst_assign rfl rfl ?_
    refine lst_store rfl rfl F.ti35 rfl ?_
    refine lst_nil ?_
    refine ex_then ?_
    refine cod_ret ?_
    exact ex_ret_caught (fun a w ha => ⟨_, res_tc (fn := Tryd.f48) ha rfl rfl rfl F.one35, A1, c1, rfl, ha.grown (by repeat (first | exact List.Sublist.refl _ | exact List.nil_sublist _ | refine List.Sublist.cons_cons _ ?_ | refine List.Sublist.cons _ ?_))⟩)

theorem rIdle_ok (A : Option Addr) (c : Nat) (ags : List Ag) (hok : Oks ags) (f : Nat) (hf : f < 64) (w : World) (hA : RdL Ag.cells 5 w A ags) : Calls Tryd.prog 49 #[.slice A ags.length c, .int .i64 (f : Int)] w fun e w' => ∃ A' c', e = .returned (.tuple #[.slice A' (idleL ags f (canTo ags (usedAll ags.length) f ags.length)).length c', .int .i64 0]) ∧ Grew w w' [.row 3 1 A' (idleL ags f (canTo ags (usedAll ags.length) f ags.length)).length c' (ints (idleL ags f (canTo ags (usedAll ags.length) f ags.length)))] := by
  refine enter (N := 42) [(0, .slice A ags.length c), (1, .int .i64 (f : Int))] Tryd.func49 rfl Tryd.ntmps49 rfl rfl ?_
  refine cod_seq ?_
  refine cod_region ?_
  refine lst_assign rfl rfl ?_
  refine lst_assign rfl rfl ?_
  refine lst_nil ?_
  refine ex_then ?_
  refine cod_seq ?_
  refine cod_seq ?_
  refine cod_region ?_
  refine lst_move rfl rfl ?_
  refine lst_move rfl rfl ?_
  refine lst_fn0 (v := .int .i64 0) (vs := [_, _, _]) rfl rfl F.ent86 (fun a w ha => by
    have h := asked_c A c (ags.map Ag.raw) (f : Int) 0 w (hA.raw.later ha.below)
    rw [List.length_map, askedR_ok hok hf (by omega)] at h
    exact h) ?_
  refine lst_assign rfl rfl ?_
  refine lst_nil ?_
  refine ex_then ?_
  refine cod_seq ?_
  refine cod_region ?_
  refine lst_move rfl rfl ?_
  refine lst_int rfl rfl rfl bin_neq ?_
  refine lst_nil ?_
  refine ex_then ?_
  refine cod_cond_false rfl ?_
  refine cod_skip ?_
  refine ex_then ?_
  refine cod_seq ?_
  refine cod_region ?_
  refine lst_assign rfl rfl ?_
  refine lst_nil ?_
  refine ex_then ?_
  refine cod_seq ?_
  refine cod_seq ?_
  refine cod_region ?_
  refine lst_assign rfl rfl ?_
  refine lst_nil ?_
  refine ex_then ?_
  refine cod_block ?_
  refine cod_nil 3 1 ?_
  refine cod_loop (G := Nat × Option Addr × Nat) (fun g => g.1 ≤ ags.length) (fun g => ags.length - g.1) (fun g => [(0, .slice A ags.length c), (1, .int .i64 (f : Int)), (7, .slice g.2.1 (idleL ags f (canTo ags (usedAll ags.length) f g.1)).length g.2.2), (8, .int .i64 (g.1 : Int))]) (fun g => [.row 3 1 g.2.1 (idleL ags f (canTo ags (usedAll ags.length) f g.1)).length g.2.2 (ints (idleL ags f (canTo ags (usedAll ags.length) f g.1)))]) (0, none, 0) (Nat.zero_le _) (by repeat (first | exact Sub.nil _ | refine Sub.cons rfl ?_)) (by repeat (first | exact List.Sublist.refl _ | exact List.nil_sublist _ | refine List.Sublist.cons_cons _ ?_ | refine List.Sublist.cons _ ?_)) ?_
  rintro ⟨k, A1, c1⟩ hk
  (try dsimp only at hk ⊢)
  refine cod_seq ?_
  refine cod_seq ?_
  refine cod_region ?_
  refine lst_move rfl rfl ?_
  refine lst_move rfl rfl ?_
  refine lst_len rfl rfl Tryd.underlying22 ?_
  refine lst_int rfl rfl rfl bin_lss ?_
  refine lst_nil ?_
  refine ex_then ?_
  refine cod_cond_dec rfl (fun hc1 => ?_) (fun hc1 => ?_)
  · skip
    have hk' : k < ags.length := by omega
    obtain ⟨b, o, rfl, hb, hcell⟩ := hA (by omega)
    obtain ⟨x, hx⟩ : ∃ x, ags[k]? = some x := ⟨_, List.getElem?_eq_getElem hk'⟩
    have hxo : x.ok := hok.2 x (List.mem_of_getElem? hx)
    have hxd : ags.getD k default = x := by rw [List.getD_eq_getElem?_getD, hx]; rfl
    have h4 := hok.1
    have hcl := canTo_len ags (usedAll ags.length) f k
    have hil := idleL_len ags f (canTo ags (usedAll ags.length) f k)
    refine cod_skip ?_
    refine ex_then ?_
    refine cod_seq ?_
    refine cod_block ?_
    refine cod_seq ?_
    refine cod_region ?_
    refine lst_cut1 16 36 (.bool (mayN x f && decide (((putN x f : Nat) : Int) = (f : Int)))) ?_ ?_
    · skip
      refine lst_move rfl rfl ?_
      refine lst_move rfl rfl ?_
      refine lst_index (j := k) rfl rfl rfl Tryd.underlying22 F.ti24 rfl hk' ?_
      refine lst_loadN_at (l := [.int .i64 (x.needs : Int), .int .i64 (x.no : Int), .int .i64 (x.takes : Int), .int .i64 (x.leaves : Int), .int .i64 (x.cost : Int)]) rfl rfl F.agg24 F.ti24 rfl (fun a w ha j u hu => ha.old (hcell k x hx j u hu) hb) ?_
      refine lst_move rfl rfl ?_
      refine lst_fn0 (vs := [_, _]) rfl rfl F.ent97 (fun a w ha => rmay_c x f hxo hf w) ?_
      refine lst_move rfl rfl ?_
      refine lst_split_bool (t := 27) rfl (fun hg27 => ?_) (fun hg27 => ?_)
      · skip
        refine lst_on rfl rfl ?_
        refine lst_move rfl rfl ?_
        refine lst_on rfl rfl ?_
        refine lst_move rfl rfl ?_
        refine lst_on rfl rfl ?_
        refine lst_index (j := k) rfl rfl rfl Tryd.underlying22 F.ti24 rfl hk' ?_
        refine lst_on rfl rfl ?_
        refine lst_loadN_at (l := [.int .i64 (x.needs : Int), .int .i64 (x.no : Int), .int .i64 (x.takes : Int), .int .i64 (x.leaves : Int), .int .i64 (x.cost : Int)]) rfl rfl F.agg24 F.ti24 rfl (fun a w ha j u hu => ha.old (hcell k x hx j u hu) hb) ?_
        refine lst_on rfl rfl ?_
        refine lst_move rfl rfl ?_
        refine lst_on rfl rfl ?_
        refine lst_fn0 (vs := [_, _]) rfl rfl F.ent94 (fun a w ha => rafter_c x f hxo hf w) ?_
        refine lst_on rfl rfl ?_
        refine lst_move rfl rfl ?_
        refine lst_on rfl rfl ?_
        refine lst_int rfl rfl rfl bin_eql ?_
        refine lst_pick_true rfl rfl rfl ?_
        refine lst_nil ?_
        exact ex_cut (.cons (by simp_all [look]) (by repeat (first | exact Sub.nil _ | refine Sub.cons rfl ?_))) (by repeat (first | exact List.Sublist.refl _ | exact List.nil_sublist _ | refine List.Sublist.cons_cons _ ?_ | refine List.Sublist.cons _ ?_))
      · skip
        refine lst_off rfl rfl rfl ?_
        refine lst_off rfl rfl rfl ?_
        refine lst_off rfl rfl rfl ?_
        refine lst_off rfl rfl rfl ?_
        refine lst_off rfl rfl rfl ?_
        refine lst_off rfl rfl rfl ?_
        refine lst_off rfl rfl rfl ?_
        refine lst_off rfl rfl rfl ?_
        refine lst_pick_false rfl rfl rfl ?_
        refine lst_nil ?_
        exact ex_cut (.cons (by simp_all [look]) (by repeat (first | exact Sub.nil _ | refine Sub.cons rfl ?_))) (by repeat (first | exact List.Sublist.refl _ | exact List.nil_sublist _ | refine List.Sublist.cons_cons _ ?_ | refine List.Sublist.cons _ ?_))
    refine lst_nil ?_
    refine ex_then ?_
    refine cod_cond_bool rfl (fun hc2 => ?_) (fun hc2 => ?_)
    · skip
      refine cod_region ?_
      refine lst_move rfl rfl ?_
      refine lst_move rfl rfl ?_
      refine lst_lit (vs := [(0, _)]) rfl rfl Tryd.underlying25 F.ti3 rfl rfl rfl ?_
      intro b39
      refine lst_append rfl rfl rfl Tryd.underlying25 F.ti3 rfl rfl rfl (by unfold maxLen; omega) (by omega) ?_
      intro A2 c2
      refine lst_assign rfl rfl ?_
      refine lst_nil ?_
      refine ex_block_normal ?_
      refine ex_then ?_
      refine cod_region ?_
      refine lst_move rfl rfl ?_
      refine lst_int rfl rfl rfl (fun w => bin_add w (wrap_i64' _ (by omega) (by omega))) ?_
      refine lst_assign rfl rfl ?_
      refine lst_nil ?_
      rw [Bool.and_eq_true, decide_eq_true_eq] at hc2
      have e0 := canTo_succ ags (usedAll ags.length) f k
      rw [hxd, hc2.1, usedAll_bit, decide_eq_true hk', Bool.true_and, if_pos rfl] at e0
      have e : (idleL ags f (canTo ags (usedAll ags.length) f (k + 1))) = (idleL ags f (canTo ags (usedAll ags.length) f k)) ++ [k] := by rw [e0, idleL_snoc, hxd, if_pos (by omega)]
      refine ex_round (k + 1, A2, c2) (by (try dsimp only); omega) (by (try dsimp only); omega) (by (try dsimp only); (try rw [e]); simp only [List.length_append, List.length_singleton]; repeat (first | exact Sub.nil _ | refine Sub.cons rfl ?_)) (by (try dsimp only); (try rw [e]); simp only [ints_snoc, List.length_append, List.length_singleton]; repeat (first | exact List.Sublist.refl _ | exact List.nil_sublist _ | refine List.Sublist.cons_cons _ ?_ | refine List.Sublist.cons _ ?_))
    · skip
      refine cod_skip ?_
      refine ex_block_normal ?_
      refine ex_then ?_
      refine cod_region ?_
      refine lst_move rfl rfl ?_
      refine lst_int rfl rfl rfl (fun w => bin_add w (wrap_i64' _ (by omega) (by omega))) ?_
      refine lst_assign rfl rfl ?_
      refine lst_nil ?_
      have e : (idleL ags f (canTo ags (usedAll ags.length) f (k + 1))) = (idleL ags f (canTo ags (usedAll ags.length) f k)) := by
        have e0 := canTo_succ ags (usedAll ags.length) f k
        rw [hxd, usedAll_bit, decide_eq_true hk', Bool.true_and] at e0
        cases hm : mayN x f with
        | false => rw [e0, hm, if_neg (by simp), List.append_nil]
        | true =>
          rw [hm, Bool.true_and, decide_eq_false_iff_not] at hc2
          rw [e0, hm, if_pos rfl, idleL_snoc, hxd, if_neg (by omega), List.append_nil]
      refine ex_round (k + 1, A1, c1) (by (try dsimp only); omega) (by (try dsimp only); omega) (by (try dsimp only); (try rw [e]); repeat (first | exact Sub.nil _ | refine Sub.cons rfl ?_)) (by (try dsimp only); (try rw [e]); repeat (first | exact List.Sublist.refl _ | exact List.nil_sublist _ | refine List.Sublist.cons_cons _ ?_ | refine List.Sublist.cons _ ?_))
  · skip
    refine cod_exit ?_
    refine ex_then_exit ?_
    refine ex_then_exit ?_
    refine ex_block_exit ?_
    refine ex_then ?_
    refine cod_seq ?_
    refine cod_region ?_
    refine lst_move rfl rfl ?_
    refine lst_assign rfl rfl ?_
    refine lst_assign rfl rfl ?_
    refine lst_nil ?_
    refine ex_then ?_
    refine cod_ret ?_
    obtain rfl : k = ags.length := by omega
    exact ex_ret rfl (fun a w ha => res_two rfl rfl rfl ha) (fun a w ha => ⟨A1, c1, rfl, ha.grown (by repeat (first | exact List.Sublist.refl _ | exact List.nil_sublist _ | refine List.Sublist.cons_cons _ ?_ | refine List.Sublist.cons _ ?_))⟩)

theorem rMay_bad (A : Option Addr) (c : Nat) (l : List RA) (m : Int) (hn : askedR l m 0 ≠ 0) (w : World) (hA : RdL RA.cells 5 w A l) : Calls Tryd.prog 44 #[.slice A l.length c, .int .i64 m] w fun e w' => e = .returned (.tuple #[.slice none 0 0, .int .i64 ((askedR l m 0 : Nat) : Int)]) ∧ Grew w w' [] := by
  refine enter (N := 32) [(0, .slice A l.length c), (1, .int .i64 m)] Tryd.func44 rfl Tryd.ntmps44 rfl rfl ?_
  refine cod_seq ?_
  refine cod_region ?_
  refine lst_assign rfl rfl ?_
  refine lst_assign rfl rfl ?_
  refine lst_nil ?_
  refine ex_then ?_
  refine cod_seq ?_
  refine cod_seq ?_
  refine cod_region ?_
  refine lst_move rfl rfl ?_
  refine lst_move rfl rfl ?_
  refine lst_fn0 (vs := [_, _, _]) rfl rfl F.ent86 (fun a w ha => asked_c A c l m 0 w (hA.later ha.below)) ?_
  refine lst_assign rfl rfl ?_
  refine lst_nil ?_
  refine ex_then ?_
  refine cod_seq ?_
  refine cod_region ?_
  refine lst_move rfl rfl ?_
  refine lst_int rfl rfl rfl bin_neq ?_
  refine lst_nil ?_
  refine ex_then ?_
  refine cod_cond_dec rfl (fun hc0 => ?_) (fun hc0 => ?_)
  · skip
    refine cod_seq ?_
    refine cod_region ?_
    refine lst_move rfl rfl ?_
    refine lst_assign rfl rfl ?_
    refine lst_assign rfl rfl ?_
    refine lst_nil ?_
    refine ex_then ?_
    refine cod_ret ?_
    refine ex_then_ret ?_
    exact ex_ret rfl (fun a w ha => res_two rfl rfl rfl ha) (fun a w ha => ⟨rfl, ha.grown (List.nil_sublist _)⟩)
  · skip
    exact absurd hn (by omega) -- done

theorem rIdle_bad (A : Option Addr) (c : Nat) (l : List RA) (m : Int) (hn : askedR l m 0 ≠ 0) (w : World) (hA : RdL RA.cells 5 w A l) : Calls Tryd.prog 49 #[.slice A l.length c, .int .i64 m] w fun e w' => e = .returned (.tuple #[.slice none 0 0, .int .i64 ((askedR l m 0 : Nat) : Int)]) ∧ Grew w w' [] := by
  refine enter (N := 42) [(0, .slice A l.length c), (1, .int .i64 m)] Tryd.func49 rfl Tryd.ntmps49 rfl rfl ?_
  refine cod_seq ?_
  refine cod_region ?_
  refine lst_assign rfl rfl ?_
  refine lst_assign rfl rfl ?_
  refine lst_nil ?_
  refine ex_then ?_
  refine cod_seq ?_
  refine cod_seq ?_
  refine cod_region ?_
  refine lst_move rfl rfl ?_
  refine lst_move rfl rfl ?_
  refine lst_fn0 (vs := [_, _, _]) rfl rfl F.ent86 (fun a w ha => asked_c A c l m 0 w (hA.later ha.below)) ?_
  refine lst_assign rfl rfl ?_
  refine lst_nil ?_
  refine ex_then ?_
  refine cod_seq ?_
  refine cod_region ?_
  refine lst_move rfl rfl ?_
  refine lst_int rfl rfl rfl bin_neq ?_
  refine lst_nil ?_
  refine ex_then ?_
  refine cod_cond_dec rfl (fun hc0 => ?_) (fun hc0 => ?_)
  · skip
    refine cod_seq ?_
    refine cod_region ?_
    refine lst_move rfl rfl ?_
    refine lst_assign rfl rfl ?_
    refine lst_assign rfl rfl ?_
    refine lst_nil ?_
    refine ex_then ?_
    refine cod_ret ?_
    refine ex_then_ret ?_
    exact ex_ret rfl (fun a w ha => res_two rfl rfl rfl ha) (fun a w ha => ⟨rfl, ha.grown (List.nil_sublist _)⟩)
  · skip
    exact absurd hn (by omega) -- done

theorem rPut_bad (A : Option Addr) (c : Nat) (l : List RA) (m : Int) (hn : askedR l m 0 ≠ 0) (wA : Option Addr) (wl wc : Nat) (w : World) (hA : RdL RA.cells 5 w A l) : Calls Tryd.prog 45 #[.slice A l.length c, .int .i64 m, .slice wA wl wc] w fun e w' => e = .returned (.tuple #[.slice none 0 0, .int .i64 ((askedR l m 0 : Nat) : Int)]) ∧ Grew w w' [] := by
  refine enter (N := 59) [(0, .slice A l.length c), (1, .int .i64 m), (2, .slice wA wl wc)] Tryd.func45 rfl Tryd.ntmps45 rfl rfl ?_
  refine cod_seq ?_
  refine cod_region ?_
  refine lst_assign rfl rfl ?_
  refine lst_assign rfl rfl ?_
  refine lst_nil ?_
  refine ex_then ?_
  refine cod_seq ?_
  refine cod_seq ?_
  refine cod_region ?_
  refine lst_move rfl rfl ?_
  refine lst_move rfl rfl ?_
  refine lst_fn0 (vs := [_, _, _]) rfl rfl F.ent86 (fun a w ha => asked_c A c l m 0 w (hA.later ha.below)) ?_
  refine lst_assign rfl rfl ?_
  refine lst_nil ?_
  refine ex_then ?_
  refine cod_seq ?_
  refine cod_region ?_
  refine lst_move rfl rfl ?_
  refine lst_int rfl rfl rfl bin_neq ?_
  refine lst_nil ?_
  refine ex_then ?_
  refine cod_cond_dec rfl (fun hc0 => ?_) (fun hc0 => ?_)
  · skip
    refine cod_seq ?_
    refine cod_region ?_
    refine lst_move rfl rfl ?_
    refine lst_assign rfl rfl ?_
    refine lst_assign rfl rfl ?_
    refine lst_nil ?_
    refine ex_then ?_
    refine cod_ret ?_
    refine ex_then_ret ?_
    exact ex_ret rfl (fun a w ha => res_two rfl rfl rfl ha) (fun a w ha => ⟨rfl, ha.grown (List.nil_sublist _)⟩)
  · skip
    exact absurd hn (by omega) -- done

theorem rPut_ok (A wA : Option Addr) (c wc : Nat) (ags : List Ag) (hok : Oks ags) (f : Nat) (hf : f < 64) (way : List Int) (w : World) (hA : RdL Ag.cells 5 w A ags) (hW : RdL icell 1 w wA way) : Calls Tryd.prog 45 #[.slice A ags.length c, .int .i64 (f : Int), .slice wA way.length wc] w fun e w' => ∃ (outs : List Nat) (E : Nat) (A' : Option Addr) (c' : Nat), PutS ags f way outs E ∧ e = .returned (.tuple #[.slice A' outs.length c', .int .i64 (E : Int)]) ∧ Grew w w' [.row 3 1 A' outs.length c' (ints outs)] := by
  refine enter (N := 59) [(0, .slice A ags.length c), (1, .int .i64 (f : Int)), (2, .slice wA way.length wc)] Tryd.func45 rfl Tryd.ntmps45 rfl rfl ?_
  refine cod_seq ?_
  refine cod_region ?_
  refine lst_assign rfl rfl ?_
  refine lst_assign rfl rfl ?_
  refine lst_nil ?_
  refine ex_then ?_
  refine cod_seq ?_
  refine cod_seq ?_
  refine cod_region ?_
  refine lst_move rfl rfl ?_
  refine lst_move rfl rfl ?_
  refine lst_fn0 (v := .int .i64 0) (vs := [_, _, _]) rfl rfl F.ent86 (fun a w ha => by
    have h := asked_c A c (ags.map Ag.raw) (f : Int) 0 w (hA.raw.later ha.below)
    rw [List.length_map, askedR_ok hok hf (by omega)] at h
    exact h) ?_
  refine lst_assign rfl rfl ?_
  refine lst_nil ?_
  refine ex_then ?_
  refine cod_seq ?_
  refine cod_region ?_
  refine lst_move rfl rfl ?_
  refine lst_int rfl rfl rfl bin_neq ?_
  refine lst_nil ?_
  refine ex_then ?_
  refine cod_cond_false rfl ?_
  refine cod_skip ?_
  refine ex_then ?_
  refine cod_seq ?_
  refine cod_seq ?_
  refine cod_region ?_
  refine lst_move rfl rfl ?_
  refine lst_len rfl rfl Tryd.underlying25 ?_
  refine lst_int rfl rfl rfl bin_gtr ?_
  refine lst_nil ?_
  refine ex_then ?_
  refine cod_cond_dec rfl (fun hc1 => ?_) (fun hc1 => ?_)
  · skip
    refine cod_seq ?_
    refine cod_region ?_
    refine lst_assign rfl rfl ?_
    refine lst_assign rfl rfl ?_
    refine lst_nil ?_
    refine ex_then ?_
    refine cod_ret ?_
    refine ex_then_ret ?_
    exact ex_ret rfl (fun a w ha => res_two rfl rfl rfl ha) (fun a w ha => ⟨[], 6, none, 0, .inr (.inr ⟨by omega, rfl, rfl⟩), rfl, (ha.add_nil 3 1).grown (by repeat (first | exact List.Sublist.refl _ | exact List.nil_sublist _ | refine List.Sublist.cons_cons _ ?_ | refine List.Sublist.cons _ ?_))⟩)
  · skip
    refine cod_skip ?_
    refine ex_then ?_
    refine cod_seq ?_
    refine cod_region ?_
    refine lst_assign rfl rfl ?_
    refine lst_nil ?_
    refine ex_then ?_
    refine cod_seq ?_
    refine cod_seq ?_
    refine cod_region ?_
    refine lst_assign rfl rfl ?_
    refine lst_nil ?_
    refine ex_then ?_
    refine cod_block ?_
    have hwl : way.length ≤ 20 := by omega
    refine cod_nil 3 1 ?_
    refine cod_loop (G := Nat × Nat × Option Addr × Nat × List Nat) (fun g => g.1 ≤ way.length ∧ g.2.2.2.2.length = g.1 ∧ g.2.1 < 64 ∧ alongE ags f way = goesOn g.2.2.2.2 (alongE ags g.2.1 (way.drop g.1))) (fun g => way.length - g.1) (fun g => [(0, .slice A ags.length c), (1, .int .i64 (g.2.1 : Int)), (2, .slice wA way.length wc), (9, .slice g.2.2.1 g.2.2.2.2.length g.2.2.2.1), (10, .int .i64 (g.1 : Int))]) (fun g => [.row 3 1 g.2.2.1 g.2.2.2.2.length g.2.2.2.1 (ints g.2.2.2.2)]) (0, f, none, 0, []) ⟨Nat.zero_le _, rfl, hf, by rw [goesOn_nil]; rfl⟩ (by repeat (first | exact Sub.nil _ | refine Sub.cons rfl ?_)) (by repeat (first | exact List.Sublist.refl _ | exact List.nil_sublist _ | refine List.Sublist.cons_cons _ ?_ | refine List.Sublist.cons _ ?_)) ?_
    rintro ⟨k, fk, A1, c1, l1⟩ ⟨hk, hl1, hfk, hal⟩
    (try dsimp only at hk hl1 hfk hal ⊢)
    refine cod_seq ?_
    refine cod_seq ?_
    refine cod_region ?_
    refine lst_move rfl rfl ?_
    refine lst_move rfl rfl ?_
    refine lst_len rfl rfl Tryd.underlying25 ?_
    refine lst_int rfl rfl rfl bin_lss ?_
    refine lst_nil ?_
    refine ex_then ?_
    refine cod_cond_dec rfl (fun hc2 => ?_) (fun hc2 => ?_)
    · skip
      have hkw : k < way.length := by omega
      obtain ⟨bw, ow, rfl, hbw, hwcell⟩ := hW (by omega)
      obtain ⟨n, hwn⟩ : ∃ n, way[k]? = some n := ⟨_, List.getElem?_eq_getElem hkw⟩
      rw [alongE_step hwn] at hal
      have h4 := hok.1
      refine cod_skip ?_
      refine ex_then ?_
      refine cod_seq ?_
      refine cod_block ?_
      refine cod_seq ?_
      refine cod_seq ?_
      refine cod_region ?_
      refine lst_move rfl rfl ?_
      refine lst_move rfl rfl ?_
      refine lst_index (j := k) rfl rfl rfl Tryd.underlying25 F.ti3 rfl hkw ?_
      refine lst_load_at (v := .int .i64 n) rfl rfl F.one3 (fun a w ha => ha.old (hwcell k n hwn 0 _ rfl) hbw) ?_
      refine lst_move rfl rfl ?_
      refine lst_len rfl rfl Tryd.underlying22 ?_
      refine lst_int rfl rfl rfl (fun w => bin_sub w (wrap_i64' ((ags.length : Int) - 1) (by omega) (by omega))) ?_
      refine lst_fn0 (vs := [_, _, _]) rfl rfl F.ent82 (fun a w ha => among_c n 0 ((ags.length : Int) - 1) w) ?_
      refine lst_not rfl rfl ?_
      refine lst_nil ?_
      refine ex_then ?_
      refine cod_cond_bool rfl (fun hc3 => ?_) (fun hc3 => ?_)
      · skip
        refine cod_seq ?_
        refine cod_region ?_
        refine lst_assign rfl rfl ?_
        refine lst_assign rfl rfl ?_
        refine lst_nil ?_
        refine ex_then ?_
        refine cod_ret ?_
        refine ex_then_ret ?_
        refine ex_block_ret ?_
        refine ex_then_ret ?_
        refine ex_then_ret ?_
        refine ex_block_ret ?_
        refine ex_then_ret ?_
        have hb2 : inB n 0 ((ags.length : Int) - 1) = false := by simpa using hc3
        rw [if_pos hb2] at hal
        exact ex_ret rfl (fun a w ha => res_two rfl rfl rfl ha) (fun a w ha => ⟨[], 3, none, 0, .inr (.inl ⟨hwl, hal, .inl rfl, rfl⟩), rfl, (ha.add_nil 3 1).grown (by repeat (first | exact List.Sublist.refl _ | exact List.nil_sublist _ | refine List.Sublist.cons_cons _ ?_ | refine List.Sublist.cons _ ?_))⟩)
      · skip
        have hb2 : inB n 0 ((ags.length : Int) - 1) = true := by simpa using hc3
        rw [if_neg (by rw [hb2]; simp)] at hal
        rw [inB_true] at hb2
        obtain ⟨i, rfl⟩ := Int.eq_ofNat_of_zero_le hb2.1
        rw [Int.toNat_natCast] at hal
        have hii : i < ags.length := by omega
        have hi2 : i < ags.length := by omega
        obtain ⟨b, o, rfl, hb, hcell⟩ := hA (by omega)
        obtain ⟨x, hx⟩ : ∃ x, ags[i]? = some x := ⟨_, List.getElem?_eq_getElem hi2⟩
        have hxo : x.ok := hok.2 x (List.mem_of_getElem? hx)
        have hxd : ags.getD i default = x := by rw [List.getD_eq_getElem?_getD, hx]; rfl
        have h4 := hok.1
        rw [hxd] at hal
        refine cod_skip ?_
        refine ex_then ?_
        refine cod_seq ?_
        refine cod_seq ?_
        refine cod_region ?_
        refine lst_move rfl rfl ?_
        refine lst_move rfl rfl ?_
        refine lst_move rfl rfl ?_
        refine lst_index (j := k) rfl rfl rfl Tryd.underlying25 F.ti3 rfl hkw ?_
        refine lst_load_at (v := .int .i64 (i : Int)) rfl rfl F.one3 (fun a w ha => ha.old (hwcell k _ hwn 0 _ rfl) hbw) ?_
        refine lst_index (j := i) rfl rfl rfl Tryd.underlying22 F.ti24 rfl hi2 ?_
        refine lst_loadN_at (l := [.int .i64 (x.needs : Int), .int .i64 (x.no : Int), .int .i64 (x.takes : Int), .int .i64 (x.leaves : Int), .int .i64 (x.cost : Int)]) rfl rfl F.agg24 F.ti24 rfl (fun a w ha j u hu => ha.old (hcell i x hx j u hu) hb) ?_
        refine lst_move rfl rfl ?_
        refine lst_fn0 (vs := [_, _]) rfl rfl F.ent97 (fun a w ha => rmay_c x fk hxo hfk w) ?_
        refine lst_not rfl rfl ?_
        refine lst_nil ?_
        refine ex_then ?_
        refine cod_cond_bool rfl (fun hc4 => ?_) (fun hc4 => ?_)
        · skip
          refine cod_seq ?_
          refine cod_region ?_
          refine lst_assign rfl rfl ?_
          refine lst_assign rfl rfl ?_
          refine lst_nil ?_
          refine ex_then ?_
          refine cod_ret ?_
          refine ex_then_ret ?_
          refine ex_block_ret ?_
          refine ex_then_ret ?_
          refine ex_then_ret ?_
          refine ex_block_ret ?_
          refine ex_then_ret ?_
          have hm : mayN x fk = false := by simpa using hc4
          rw [if_pos hm] at hal
          exact ex_ret rfl (fun a w ha => res_two rfl rfl rfl ha) (fun a w ha => ⟨[], 12, none, 0, .inr (.inl ⟨hwl, hal, .inr rfl, rfl⟩), rfl, (ha.add_nil 3 1).grown (by repeat (first | exact List.Sublist.refl _ | exact List.nil_sublist _ | refine List.Sublist.cons_cons _ ?_ | refine List.Sublist.cons _ ?_))⟩)
        · skip
          have hm : mayN x fk = true := by simpa using hc4
          rw [if_neg (by rw [hm]; simp), goesOn_step] at hal
          refine cod_skip ?_
          refine ex_then ?_
          refine cod_seq ?_
          refine cod_region ?_
          refine lst_move rfl rfl ?_
          refine lst_move rfl rfl ?_
          refine lst_move rfl rfl ?_
          refine lst_index (j := k) rfl rfl rfl Tryd.underlying25 F.ti3 rfl hkw ?_
          refine lst_load_at (v := .int .i64 (i : Int)) rfl rfl F.one3 (fun a w ha => ha.old (hwcell k _ hwn 0 _ rfl) hbw) ?_
          refine lst_index (j := i) rfl rfl rfl Tryd.underlying22 F.ti24 rfl hi2 ?_
          refine lst_loadN_at (l := [.int .i64 (x.needs : Int), .int .i64 (x.no : Int), .int .i64 (x.takes : Int), .int .i64 (x.leaves : Int), .int .i64 (x.cost : Int)]) rfl rfl F.agg24 F.ti24 rfl (fun a w ha j u hu => ha.old (hcell i x hx j u hu) hb) ?_
          refine lst_move rfl rfl ?_
          refine lst_fn0 (vs := [_, _]) rfl rfl F.ent94 (fun a w ha => rafter_c x fk hxo hfk w) ?_
          refine lst_assign rfl rfl ?_
          refine lst_nil ?_
          refine ex_then ?_
          refine cod_region ?_
          refine lst_move rfl rfl ?_
          refine lst_move rfl rfl ?_
          refine lst_lit (vs := [(0, _)]) rfl rfl Tryd.underlying25 F.ti3 rfl rfl rfl ?_
          intro b56
          refine lst_append rfl rfl rfl Tryd.underlying25 F.ti3 rfl rfl rfl (by unfold maxLen; omega) (by omega) ?_
          intro A2 c2
          refine lst_assign rfl rfl ?_
          refine lst_nil ?_
          refine ex_block_normal ?_
          refine ex_then ?_
          refine cod_region ?_
          refine lst_move rfl rfl ?_
          refine lst_int rfl rfl rfl (fun w => bin_add w (wrap_i64' _ (by omega) (by omega))) ?_
          refine lst_assign rfl rfl ?_
          refine lst_nil ?_
          refine ex_round (k + 1, putN x fk, A2, c2, l1 ++ [putN x fk]) ⟨by omega, by simp; omega, putN_lt hxo hfk, hal⟩ (by (try dsimp only); omega) (by dsimp only; rw [List.length_append, List.length_singleton]; repeat (first | exact Sub.nil _ | refine Sub.cons rfl ?_)) (by dsimp only; rw [List.length_append, List.length_singleton, ints_snoc]; repeat (first | exact List.Sublist.refl _ | exact List.nil_sublist _ | refine List.Sublist.cons_cons _ ?_ | refine List.Sublist.cons _ ?_))
    · skip
      refine cod_exit ?_
      refine ex_then_exit ?_
      refine ex_then_exit ?_
      refine ex_block_exit ?_
      refine ex_then ?_
      refine cod_seq ?_
      refine cod_region ?_
      refine lst_move rfl rfl ?_
      refine lst_assign rfl rfl ?_
      refine lst_assign rfl rfl ?_
      refine lst_nil ?_
      refine ex_then ?_
      refine cod_ret ?_
      obtain rfl : k = way.length := by omega
      rw [List.drop_length] at hal
      have hal' : alongE ags f way = .ok l1 := by rw [hal]; show Except.ok (l1 ++ []) = _; rw [List.append_nil]
      exact ex_ret rfl (fun a w ha => res_two rfl rfl rfl ha) (fun a w ha => ⟨l1, 0, A1, c1, .inl ⟨hwl, hal', rfl, hl1⟩, rfl, ha.grown (by repeat (first | exact List.Sublist.refl _ | exact List.nil_sublist _ | refine List.Sublist.cons_cons _ ?_ | refine List.Sublist.cons _ ?_))⟩)

end Go.Proofs.YtofkhehcnfiopaaDoor.N
namespace Go.Proofs.YtofkhehcnfiopaaDoor.N
open Go Go.RowKit Go.Proofs
/-! What is asked of whatever agents: the program and the reference answer alike. -/
theorem askedR_zero {l : List RA} {m p : Int} (h : askedR l m p = 0) : checkR l = 0 ∧ inB m 0 63 = true ∧ inB p 0 63 = true := by
  unfold askedR at h
  by_cases hc : checkR l = 0
  · rw [if_neg (by simpa using hc)] at h
    refine ⟨hc, ?_⟩
    by_cases hb : (inB m 0 63 && inB p 0 63) = true
    · simpa using hb
    · rw [if_neg hb] at h; cases h
  · rw [if_pos hc] at h; exact absurd h hc
theorem askedR_check {l : List RA} {m p : Int} (h : checkR l ≠ 0) : askedR l m p = checkR l := by
  unfold askedR
  rw [if_pos h]
theorem askedR_one {l : List RA} {m p : Int} (h : checkR l = 0) (hb : inB m 0 63 = false ∨ inB p 0 63 = false) : askedR l m p = 1 := by
  unfold askedR
  rw [if_neg (by simpa using h), if_neg]
  intro hx
  rw [Bool.and_eq_true] at hx
  rcases hb with e | e
  · rw [e] at hx; cases hx.1
  · rw [e] at hx; cases hx.2
theorem nat_of_inB {m : Int} (h : inB m 0 63 = true) : ∃ f : Nat, m = (f : Int) ∧ f < 64 := by
  rw [inB_true] at h
  exact ⟨m.toNat, by omega, by omega⟩
theorem in0 : inB 0 0 63 = true := by decide
/-- One list of numbers, or the error. -/
def mayL (l : List RA) (m : Int) : List Nat := if askedR l m 0 = 0 then canTo (agsOf l) (usedAll (agsOf l).length) m.toNat (agsOf l).length else []
def idleR (l : List RA) (m : Int) : List Nat := if askedR l m 0 = 0 then idleL (agsOf l) m.toNat (canTo (agsOf l) (usedAll (agsOf l).length) m.toNat (agsOf l).length) else []
theorem grew_nil {w w' : World} (h : Grew w w' []) : Grew w w' [.row 3 1 none ([] : List Nat).length 0 (ints [])] :=
  ⟨h.1, fun r hr => by simp at hr; subst hr; exact ⟨rfl, .inl ⟨rfl, rfl⟩⟩, List.nodup_nil⟩
def Says (w : World) (L : List Nat) (E : Nat) (e : Ending) (w' : World) : Prop := ∃ (A' : Option Addr) (c' : Nat), e = .returned (.tuple #[.slice A' L.length c', .int .i64 (E : Int)]) ∧ Grew w w' [.row 3 1 A' L.length c' (ints L)]
theorem Says.nil {w w' : World} {E : Nat} {e : Ending} (h : e = .returned (.tuple #[.slice none 0 0, .int .i64 (E : Int)]) ∧ Grew w w' []) : Says w [] E e w' := ⟨none, 0, h.1, grew_nil h.2⟩
theorem May_all (A : Option Addr) (c : Nat) (l : List RA) (m : Int) (w : World) (hA : RdL RA.cells 5 w A l) : Calls Tryd.prog 41 #[.slice A l.length c, .int .i64 m] w (Says w (mayL l m) (askedR l m 0)) := by
  by_cases hc : checkR l = 0
  · cases hb : inB m 0 63 with
    | true =>
      obtain ⟨f, rfl, hf⟩ := nat_of_inB hb
      have h0 : askedR l (f : Int) 0 = 0 := by unfold askedR; rw [if_neg (by simpa using hc), if_pos (by rw [hb, in0]; rfl)]
      have h := May_ok A c (agsOf l) (checkR_oks hc) f hf w (hA.ag hc)
      rw [agsOf_len] at h
      unfold mayL
      rw [if_pos h0, h0, Int.toNat_natCast, agsOf_len]
      exact h
    | false =>
      have h1 := askedR_one (p := 0) hc (.inl hb)
      have h := May_bad0 A c (agsOf l) (checkR_oks hc) m hb w (hA.ag hc)
      rw [agsOf_len] at h
      unfold mayL
      rw [if_neg (by rw [h1]; decide), h1]
      exact h.mono fun e w' h => Says.nil h
  · have h1 := askedR_check (m := m) (p := 0) hc
    unfold mayL
    rw [if_neg (by rw [h1]; exact hc), h1]
    exact (May_bad A c l hc m w hA).mono fun e w' h => Says.nil h
theorem rMay_all (A : Option Addr) (c : Nat) (l : List RA) (m : Int) (w : World) (hA : RdL RA.cells 5 w A l) : Calls Tryd.prog 44 #[.slice A l.length c, .int .i64 m] w (Says w (mayL l m) (askedR l m 0)) := by
  by_cases h0 : askedR l m 0 = 0
  · obtain ⟨hc, hb, _⟩ := askedR_zero h0
    obtain ⟨f, rfl, hf⟩ := nat_of_inB hb
    have h := rMay_ok A c (agsOf l) (checkR_oks hc) f hf w (hA.ag hc)
    rw [agsOf_len] at h
    unfold mayL
    rw [if_pos h0, h0, Int.toNat_natCast, agsOf_len]
    exact h
  · unfold mayL
    rw [if_neg h0]
    exact (rMay_bad A c l m h0 w hA).mono fun e w' h => Says.nil h
theorem Idle_all (A : Option Addr) (c : Nat) (l : List RA) (m : Int) (w : World) (hA : RdL RA.cells 5 w A l) : Calls Tryd.prog 48 #[.slice A l.length c, .int .i64 m] w (Says w (idleR l m) (askedR l m 0)) := by
  by_cases hc : checkR l = 0
  · cases hb : inB m 0 63 with
    | true =>
      obtain ⟨f, rfl, hf⟩ := nat_of_inB hb
      have h0 : askedR l (f : Int) 0 = 0 := by unfold askedR; rw [if_neg (by simpa using hc), if_pos (by rw [hb, in0]; rfl)]
      have h := Idle_ok A c (agsOf l) (checkR_oks hc) f hf w (hA.ag hc)
      rw [agsOf_len] at h
      unfold idleR
      rw [if_pos h0, h0, Int.toNat_natCast, agsOf_len]
      exact h
    | false =>
      have h1 := askedR_one (p := 0) hc (.inl hb)
      have h := Idle_bad0 A c (agsOf l) (checkR_oks hc) m hb w (hA.ag hc)
      rw [agsOf_len] at h
      unfold idleR
      rw [if_neg (by rw [h1]; decide), h1]
      exact h.mono fun e w' h => Says.nil h
  · have h1 := askedR_check (m := m) (p := 0) hc
    unfold idleR
    rw [if_neg (by rw [h1]; exact hc), h1]
    exact (Idle_bad A c l hc m w hA).mono fun e w' h => Says.nil h
theorem rIdle_all (A : Option Addr) (c : Nat) (l : List RA) (m : Int) (w : World) (hA : RdL RA.cells 5 w A l) : Calls Tryd.prog 49 #[.slice A l.length c, .int .i64 m] w (Says w (idleR l m) (askedR l m 0)) := by
  by_cases h0 : askedR l m 0 = 0
  · obtain ⟨hc, hb, _⟩ := askedR_zero h0
    obtain ⟨f, rfl, hf⟩ := nat_of_inB hb
    have h := rIdle_ok A c (agsOf l) (checkR_oks hc) f hf w (hA.ag hc)
    rw [agsOf_len] at h
    unfold idleR
    rw [if_pos h0, h0, Int.toNat_natCast, agsOf_len]
    exact h
  · unfold idleR
    rw [if_neg h0]
    exact (rIdle_bad A c l m h0 w hA).mono fun e w' h => Says.nil h
/-- What Put answers. -/
def putR (l : List RA) (m : Int) (way : List Int) : List Nat × Nat :=
  if askedR l m 0 = 0 then (if 20 < way.length then ([], 6) else match alongE (agsOf l) m.toNat way with | .ok o => (o, 0) | .error c => ([], c)) else ([], askedR l m 0)
theorem PutS.is {l : List RA} {f E : Nat} {way : List Int} {outs : List Nat} (h0 : askedR l (f : Int) 0 = 0) (h : PutS (agsOf l) f way outs E) : putR l (f : Int) way = (outs, E) := by
  unfold putR
  rw [if_pos h0, Int.toNat_natCast]
  rcases h with ⟨h1, h2, h3, _⟩ | ⟨h1, h2, _, h4⟩ | ⟨h1, h2, h3⟩
  · rw [if_neg (by omega), h2, h3]
  · rw [if_neg (by omega), h2, h4]
  · rw [if_pos h1, h2, h3]
theorem Put_all (A wA : Option Addr) (c wc : Nat) (l : List RA) (m : Int) (way : List Int) (w : World) (hA : RdL RA.cells 5 w A l) (hW : RdL icell 1 w wA way) (hE : w.cell? ⟨0, 0, none⟩ = some (iT 107)) : Calls Tryd.prog 40 #[.slice A l.length c, .int .i64 m, .slice wA way.length wc] w (Says w (putR l m way).1 (putR l m way).2) := by
  by_cases hc : checkR l = 0
  · cases hb : inB m 0 63 with
    | true =>
      obtain ⟨f, rfl, hf⟩ := nat_of_inB hb
      have h0 : askedR l (f : Int) 0 = 0 := by unfold askedR; rw [if_neg (by simpa using hc), if_pos (by rw [hb, in0]; rfl)]
      have h := Put_c A c (agsOf l) (checkR_oks hc) wA wc f way hf w (hA.ag hc) hW hE
      rw [agsOf_len] at h
      refine h.mono fun e w' h => ?_
      obtain ⟨outs, E, A', c', h1, h2, h3⟩ := h
      rw [h1.is h0]
      exact ⟨A', c', h2, h3⟩
    | false =>
      have h1 := askedR_one (p := 0) hc (.inl hb)
      have h := Put_bad0 A c (agsOf l) (checkR_oks hc) m hb wA way.length wc w (hA.ag hc)
      rw [agsOf_len] at h
      unfold putR
      rw [if_neg (by rw [h1]; decide), h1]
      exact h.mono fun e w' h => Says.nil h
  · have h1 := askedR_check (m := m) (p := 0) hc
    unfold putR
    rw [if_neg (by rw [h1]; exact hc), h1]
    exact (Put_bad A c l hc m wA way.length wc w hA).mono fun e w' h => Says.nil h
theorem rPut_all (A wA : Option Addr) (c wc : Nat) (l : List RA) (m : Int) (way : List Int) (w : World) (hA : RdL RA.cells 5 w A l) (hW : RdL icell 1 w wA way) : Calls Tryd.prog 45 #[.slice A l.length c, .int .i64 m, .slice wA way.length wc] w (Says w (putR l m way).1 (putR l m way).2) := by
  by_cases h0 : askedR l m 0 = 0
  · obtain ⟨hc, hb, _⟩ := askedR_zero h0
    obtain ⟨f, rfl, hf⟩ := nat_of_inB hb
    have h := rPut_ok A wA c wc (agsOf l) (checkR_oks hc) f hf way w (hA.ag hc) hW
    rw [agsOf_len] at h
    refine h.mono fun e w' h => ?_
    obtain ⟨outs, E, A', c', h1, h2, h3⟩ := h
    rw [h1.is h0]
    exact ⟨A', c', h2, h3⟩
  · unfold putR
    rw [if_neg h0]
    exact (rPut_bad A c l m h0 wA way.length wc w hA).mono fun e w' h => Says.nil h
end Go.Proofs.YtofkhehcnfiopaaDoor.N
namespace Go.Proofs.YtofkhehcnfiopaaDoor.N
open Go Go.RowKit Go.Proofs
/-- A number of 64 bits. -/
def W64 (n : Int) : Prop := -9223372036854775808 ≤ n ∧ n ≤ 9223372036854775807
structure RA.wf (a : RA) : Prop where
  needs : W64 a.needs
  no : W64 a.no
  takes : W64 a.takes
  leaves : W64 a.leaves
  cost : W64 a.cost
def rv24 (a : RA) : Value := .agg a.cells.toArray
def ralits (a : RA) : List Go.Lit := [.int .i64 a.needs, .int .i64 a.no, .int .i64 a.takes, .int .i64 a.leaves, .int .i64 a.cost]
theorem kt24 : Tryd.prog.keyType 24 = true := by kernel_rfl
theorem co24 : Tryd.prog.cellsOf 24 = 5 := by kernel_rfl
theorem w64wf {n : Int} (h : W64 n) : (Go.Lit.int .i64 n).wf = true := by
  unfold W64 at h
  simp [Go.Lit.wf, IntKind.min, IntKind.max, IntKind.signed, IntKind.bits]
  omega
theorem keyLits_w64 {n : Int} (h : W64 n) (d : Nat) : Tryd.prog.keyLits (d + 1) 3 [.int .i64 n] = some [.int .i64 n] := by
  unfold Program.keyLits
  rw [Tryd.underlying3]
  simp [w64wf h]
theorem keyLits_ra {a : RA} (h : a.wf) (d : Nat) : Tryd.prog.keyLits (d + 1 + 1) 24 a.cells = some (ralits a) := by
  obtain ⟨h1, h2, h3, h4, h5⟩ := h
  conv => lhs; unfold Program.keyLits
  rw [Tryd.underlying24]
  simp [co24, co3, RA.cells, ralits, keyLits_w64 h1, keyLits_w64 h2, keyLits_w64 h3, keyLits_w64 h4, keyLits_w64 h5]
theorem keyOf_ra {a : RA} (h : a.wf) : keyOf Tryd.prog 24 (rv24 a) = some (.string (keyBytes (ralits a))) := by
  unfold keyOf
  rw [Tryd.underlying24]
  simp only [kt24, Bool.true_and]
  have hf : (rv24 a).formed Tryd.prog 24 = true := by
    simp [Value.formed, rv24, Tryd.underlying24, co24, RA.cells]
  rw [if_pos hf, tsz]
  have : (rv24 a).cells.toList = a.cells := rfl
  rw [this, keyLits_ra h]
  rfl
theorem run_neq_same {a : RA} (h : a.wf) (x y : Operand) (w : World) : (do eqGuard .neq 24 x y (rv24 a) (rv24 a); binOp .neq 24 (rv24 a) (rv24 a) : Sem Value).run Tryd.prog w = .ok (.bool false) w := by
  obtain ⟨r, hr, hiff⟩ := run_equal_deep (P := Tryd.prog) w (m := 2) (by omega) (k := 24) (by kernel_rfl) (by rw [Tryd.underlying24]) (keyOf_ra h) (keyOf_ra h)
  have hg : (eqGuard .neq 24 x y (rv24 a) (rv24 a)).run Tryd.prog w = .ok () w := by
    have h1 : Tryd.prog.eqGuardType Tryd.prog.depth 24 = false := by kernel_rfl
    have hp : (program : Sem Program).run Tryd.prog w = .ok Tryd.prog w := rfl
    simp only [eqGuard, rv24, Sem.run_bind, hp, Result.andThen_ok, h1]
    simp
  have hb : (binOp .neq 24 (rv24 a) (rv24 a)).run Tryd.prog w = .ok (.bool (!r)) w := by
    show (do pure (.bool (!(← Op.equal 24 (rv24 a) (rv24 a)))) : Sem Value).run Tryd.prog w = _
    simp only [Sem.run_bind, hr, Result.andThen_ok, Sem.run_pure]
  obtain rfl : r = true := hiff.2 rfl
  simp only [Sem.run_bind, hg, Result.andThen_ok, hb]
  rfl
end Go.Proofs.YtofkhehcnfiopaaDoor.N
namespace Go.Proofs.YtofkhehcnfiopaaDoor.N
open Go Go.RowKit Go.Proofs
theorem icell_one (n : Int) : ∀ u ∈ icell n, u.oneCell' = true := by
  intro u hu
  simp [icell] at hu
  subst hu
  simp [Value.oneCell']
theorem ints_icell (l : List Nat) : ints l = (castL l).flatMap icell := by
  induction l with
  | nil => rfl
  | cons n l ih =>
    show _ :: ints l = _
    rw [ih]; rfl
end Go.Proofs.YtofkhehcnfiopaaDoor.N
namespace Go.Proofs.YtofkhehcnfiopaaDoor.N
open Go Go.RowKit Go.Proofs

theorem dupi_nil  (w : World) : Calls Tryd.prog 27 #[.slice none 0 0] w fun e w' => ∃ A' c', e = .returned (.slice A' 0 c') ∧ Grew w w' [.row 3 1 A' 0 c' []] := by
  refine enter (N := 6) [(0, .slice none 0 0)] Tryd.func27 rfl Tryd.ntmps27 rfl rfl ?_
  refine cod_seq ?_
  refine cod_region ?_
  refine lst_assign rfl rfl ?_
  refine lst_nil ?_
  refine ex_then ?_
  refine cod_seq ?_
  refine cod_region ?_
  refine lst_lit0 rfl Tryd.underlying25 F.ti3 ?_
  intro b3
  refine lst_as_row 1 (.head _) ?_
  refine lst_move rfl rfl ?_
  refine lst_append_none rfl rfl rfl Tryd.underlying25 F.ti3 (Nat.le_refl _) ?_
  refine lst_assign rfl rfl ?_
  refine lst_nil ?_
  refine ex_then ?_
  refine cod_ret ?_
  exact ex_ret rfl (fun a w ha => res_one rfl rfl ha) (fun a w ha => ⟨_, 0, rfl, ha.grown (by repeat (first | exact List.Sublist.refl _ | exact List.nil_sublist _ | refine List.Sublist.cons_cons _ ?_ | refine List.Sublist.cons _ ?_))⟩)

theorem dupi_some (p : Addr) (c : Nat) (l : List Int) (hl : l.length ≤ 400000) (w : World) (hA : RdL icell 1 w (some p) l) : Calls Tryd.prog 27 #[.slice (some p) l.length c] w fun e w' => ∃ A' c', e = .returned (.slice A' l.length c') ∧ Grew w w' [.row 3 1 A' l.length c' (l.flatMap icell)] := by
  refine enter (N := 6) [(0, .slice (some p) l.length c)] Tryd.func27 rfl Tryd.ntmps27 rfl rfl ?_
  refine cod_seq ?_
  refine cod_region ?_
  refine lst_assign rfl rfl ?_
  refine lst_nil ?_
  refine ex_then ?_
  refine cod_seq ?_
  refine cod_region ?_
  refine lst_lit0 rfl Tryd.underlying25 F.ti3 ?_
  intro b3
  refine lst_as_row 1 (.head _) ?_
  refine lst_move rfl rfl ?_
  refine lst_append_cells (cells := icell) rfl rfl rfl Tryd.underlying25 F.ti3 rfl rfl (fun _ => rfl) icell_one (fun a w ha => hA.later ha.below) rfl (by unfold maxLen; omega) (by omega) ?_
  intro A1 c1
  refine lst_assign rfl rfl ?_
  refine lst_nil ?_
  refine ex_then ?_
  refine cod_ret ?_
  simp only [Nat.zero_add, List.nil_append]
  exact ex_ret rfl (fun a w ha => res_one rfl rfl ha) (fun a w ha => ⟨A1, c1, rfl, ha.grown (by repeat (first | exact List.Sublist.refl _ | exact List.nil_sublist _ | refine List.Sublist.cons_cons _ ?_ | refine List.Sublist.cons _ ?_))⟩)

theorem dupi_c (A : Option Addr) (c : Nat) (l : List Int) (hl : l.length ≤ 400000) (w : World) (hn : A = none → l = [] ∧ c = 0) (hA : RdL icell 1 w A l) :
    Calls Tryd.prog 27 #[.slice A l.length c] w fun e w' => ∃ A' c', e = .returned (.slice A' l.length c') ∧ Grew w w' [.row 3 1 A' l.length c' (l.flatMap icell)] := by
  cases A with
  | none =>
    obtain ⟨rfl, rfl⟩ := hn rfl
    exact dupi_nil w
  | some p => exact dupi_some p c l hl w hA

theorem EqAgents_c (A B : Option Addr) (c d : Nat) (l : List RA) (hl : l.length ≤ 400000) (hwf : ∀ x ∈ l, x.wf) (w : World) (hA : RdL RA.cells 5 w A l) (hB : RdL RA.cells 5 w B l) : Calls Tryd.prog 33 #[.slice A l.length c, .slice B l.length d] w fun e w' => e = .returned (.bool true) ∧ Grew w w' [] := by
  refine enter (N := 32) [(0, .slice A l.length c), (1, .slice B l.length d)] Tryd.func33 rfl Tryd.ntmps33 rfl rfl ?_
  refine cod_seq ?_
  refine cod_region ?_
  refine lst_assign rfl rfl ?_
  refine lst_nil ?_
  refine ex_then ?_
  refine cod_seq ?_
  refine cod_seq ?_
  refine cod_region ?_
  refine lst_assign rfl rfl ?_
  refine lst_nil ?_
  refine ex_then ?_
  refine cod_block ?_
  refine cod_loop (G := Nat) (fun k => k ≤ l.length) (fun k => l.length - k) (fun k => [(0, .slice A l.length c), (1, .slice B l.length d), (5, .int .i64 (k : Int))]) (fun k => []) 0 (Nat.zero_le _) (by repeat (first | exact Sub.nil _ | refine Sub.cons rfl ?_)) (by repeat (first | exact List.Sublist.refl _ | exact List.nil_sublist _ | refine List.Sublist.cons_cons _ ?_ | refine List.Sublist.cons _ ?_)) ?_
  intro k hk
  (try dsimp only at hk ⊢)
  refine cod_seq ?_
  refine cod_seq ?_
  refine cod_region ?_
  refine lst_cut1 10 15 (.bool (decide ((k : Int) < (l.length : Int)))) ?_ ?_
  · skip
    refine lst_move rfl rfl ?_
    refine lst_move rfl rfl ?_
    refine lst_len rfl rfl Tryd.underlying22 ?_
    refine lst_int rfl rfl rfl bin_lss ?_
    refine lst_move rfl rfl ?_
    refine lst_split_bool (t := 10) rfl (fun hg10 => ?_) (fun hg10 => ?_)
    · skip
      refine lst_on rfl rfl ?_
      refine lst_move rfl rfl ?_
      refine lst_on rfl rfl ?_
      refine lst_move rfl rfl ?_
      refine lst_on rfl rfl ?_
      refine lst_len rfl rfl Tryd.underlying22 ?_
      refine lst_on rfl rfl ?_
      refine lst_int rfl rfl rfl bin_lss ?_
      refine lst_pick_true rfl rfl rfl ?_
      refine lst_nil ?_
      exact ex_cut (.cons (by simp_all [look]) (by repeat (first | exact Sub.nil _ | refine Sub.cons rfl ?_))) (by repeat (first | exact List.Sublist.refl _ | exact List.nil_sublist _ | refine List.Sublist.cons_cons _ ?_ | refine List.Sublist.cons _ ?_))
    · skip
      refine lst_off rfl rfl rfl ?_
      refine lst_off rfl rfl rfl ?_
      refine lst_off rfl rfl rfl ?_
      refine lst_off rfl rfl rfl ?_
      refine lst_pick_false rfl rfl rfl ?_
      refine lst_nil ?_
      exact ex_cut (.cons (by simp_all [look]) (by repeat (first | exact Sub.nil _ | refine Sub.cons rfl ?_))) (by repeat (first | exact List.Sublist.refl _ | exact List.nil_sublist _ | refine List.Sublist.cons_cons _ ?_ | refine List.Sublist.cons _ ?_))
  refine lst_nil ?_
  refine ex_then ?_
  refine cod_cond_bool rfl (fun hc0 => ?_) (fun hc0 => ?_)
  · skip
    have hk' : k < l.length := by have := of_decide_eq_true hc0; omega
    obtain ⟨b, o, rfl, hb, hcell⟩ := hA (by omega)
    obtain ⟨b2, o2, rfl, hb2, hcell2⟩ := hB (by omega)
    obtain ⟨x, hx⟩ : ∃ x, l[k]? = some x := ⟨_, List.getElem?_eq_getElem hk'⟩
    have hxw := hwf x (List.mem_of_getElem? hx)
    refine cod_skip ?_
    refine ex_then ?_
    refine cod_seq ?_
    refine cod_block ?_
    refine cod_seq ?_
    refine any_begin [] F.follows 9 rfl [false, false, false, false, false, false, false, false, false] rfl ?_
    refine any_take (listed' := [true, false, false, false, false, false, false, false, false].toArray) 0 rfl rfl rfl (by kernel_rfl) (by kernel_rfl) (by kernel_rfl) (by repeat (first | exact List.Sublist.refl _ | exact List.nil_sublist _ | refine List.Sublist.cons_cons _ ?_ | refine List.Sublist.cons _ ?_)) (yld_move rfl) rfl ?_
    refine any_take (listed' := [true, true, false, false, false, false, false, false, false].toArray) 1 rfl rfl rfl (by kernel_rfl) (by kernel_rfl) (by kernel_rfl) (by repeat (first | exact List.Sublist.refl _ | exact List.nil_sublist _ | refine List.Sublist.cons_cons _ ?_ | refine List.Sublist.cons _ ?_)) (yld_move rfl) rfl ?_
    refine any_take (listed' := [true, true, true, false, false, false, false, false, false].toArray) 2 rfl rfl rfl (by kernel_rfl) (by kernel_rfl) (by kernel_rfl) (by repeat (first | exact List.Sublist.refl _ | exact List.nil_sublist _ | refine List.Sublist.cons_cons _ ?_ | refine List.Sublist.cons _ ?_)) (yld_index (j := k) rfl rfl Tryd.underlying22 F.ti24 rfl hk') rfl ?_
    refine any_take (listed' := [true, true, true, true, false, false, false, false, false].toArray) 3 rfl rfl rfl (by kernel_rfl) (by kernel_rfl) (by kernel_rfl) (by repeat (first | exact List.Sublist.refl _ | exact List.nil_sublist _ | refine List.Sublist.cons_cons _ ?_ | refine List.Sublist.cons _ ?_)) (yld_loadN_at (l := [.int .i64 x.needs, .int .i64 x.no, .int .i64 x.takes, .int .i64 x.leaves, .int .i64 x.cost]) rfl F.agg24 F.ti24 rfl (fun a w ha j u hu => ha.old (hcell k x hx j u hu) hb)) rfl ?_
    refine any_take (listed' := [true, true, true, true, true, false, false, false, false].toArray) 4 rfl rfl rfl (by kernel_rfl) (by kernel_rfl) (by kernel_rfl) (by repeat (first | exact List.Sublist.refl _ | exact List.nil_sublist _ | refine List.Sublist.cons_cons _ ?_ | refine List.Sublist.cons _ ?_)) (yld_move rfl) rfl ?_
    refine any_take (listed' := [true, true, true, true, true, true, false, false, false].toArray) 5 rfl rfl rfl (by kernel_rfl) (by kernel_rfl) (by kernel_rfl) (by repeat (first | exact List.Sublist.refl _ | exact List.nil_sublist _ | refine List.Sublist.cons_cons _ ?_ | refine List.Sublist.cons _ ?_)) (yld_move rfl) rfl ?_
    refine any_take (listed' := [true, true, true, true, true, true, true, false, false].toArray) 6 rfl rfl rfl (by kernel_rfl) (by kernel_rfl) (by kernel_rfl) (by repeat (first | exact List.Sublist.refl _ | exact List.nil_sublist _ | refine List.Sublist.cons_cons _ ?_ | refine List.Sublist.cons _ ?_)) (yld_index (j := k) rfl rfl Tryd.underlying22 F.ti24 rfl hk') rfl ?_
    refine any_take (listed' := [true, true, true, true, true, true, true, true, false].toArray) 7 rfl rfl rfl (by kernel_rfl) (by kernel_rfl) (by kernel_rfl) (by repeat (first | exact List.Sublist.refl _ | exact List.nil_sublist _ | refine List.Sublist.cons_cons _ ?_ | refine List.Sublist.cons _ ?_)) (yld_loadN_at (l := [.int .i64 x.needs, .int .i64 x.no, .int .i64 x.takes, .int .i64 x.leaves, .int .i64 x.cost]) rfl F.agg24 F.ti24 rfl (fun a w ha j u hu => ha.old (hcell2 k x hx j u hu) hb2)) rfl ?_
    refine any_take (listed' := [true, true, true, true, true, true, true, true, true].toArray) 8 rfl rfl rfl (by kernel_rfl) (by kernel_rfl) (by kernel_rfl) (by repeat (first | exact List.Sublist.refl _ | exact List.nil_sublist _ | refine List.Sublist.cons_cons _ ?_ | refine List.Sublist.cons _ ?_)) (yld_bin rfl rfl (run_neq_same hxw _ _)) rfl ?_
    refine any_done rfl (by kernel_rfl) ?_
    refine ex_then ?_
    refine cod_cond_false rfl ?_
    refine cod_skip ?_
    refine ex_block_normal ?_
    refine ex_then ?_
    refine cod_region ?_
    refine lst_move rfl rfl ?_
    refine lst_int rfl rfl rfl (fun w => bin_add w (wrap_i64' _ (by omega) (by omega))) ?_
    refine lst_assign rfl rfl ?_
    refine lst_nil ?_
    refine ex_round (k + 1) (by (try dsimp only); omega) (by (try dsimp only); omega) (by repeat (first | exact Sub.nil _ | refine Sub.cons rfl ?_)) (by repeat (first | exact List.Sublist.refl _ | exact List.nil_sublist _ | refine List.Sublist.cons_cons _ ?_ | refine List.Sublist.cons _ ?_))
  · skip
    refine cod_exit ?_
    refine ex_then_exit ?_
    refine ex_then_exit ?_
    refine ex_block_exit ?_
    refine ex_then ?_
    refine cod_seq ?_
    refine cod_region ?_
    refine lst_move rfl rfl ?_
    refine lst_len rfl rfl Tryd.underlying22 ?_
    refine lst_move rfl rfl ?_
    refine lst_len rfl rfl Tryd.underlying22 ?_
    refine lst_int (v := .bool true) rfl rfl rfl (fun w => by rw [bin_eql]; simp) ?_
    refine lst_assign rfl rfl ?_
    refine lst_nil ?_
    refine ex_then ?_
    refine cod_ret ?_
    exact ex_ret rfl (fun a w ha => res_one rfl rfl ha) (fun a w ha => ⟨rfl, ha.grown (List.nil_sublist _)⟩)

theorem wayOf_bad {C : Ctx} {fr : List (Nat × Value)} {T : List Res} {a : Act} {w : World} (hC : C.P = Tryd.prog) {hb tk st nc : Nat} {nA : Option Addr} {nums : List Int} (hB : C.w0.heap.size = C.B) (hN : RdL icell 1 C.w0 nA nums) (htk : tk ≤ 900000) (hst : st < 18446744073709551616) {l : List RA} {aA : Option Addr} {ac : Nat} {m : Int} (hn : askedR l m 0 ≠ 0) (hA : Rds RA.cells 5 C T aA l) (ha : At C fr (.blk hb (hatO nA nums.length nc (tk) (st)) :: T) a w) : Calls C.P 39 #[.pointer (some ⟨hb, 0, none⟩), .slice aA l.length ac, .int .i64 m] w fun e w' => ∃ (tk' st' : Nat), tk' ≤ tk + 70 ∧ st' < 18446744073709551616 ∧ e = .returned (.slice none 0 0) ∧ At C fr (.blk hb (hatO nA nums.length nc (tk') (st')) :: T) a w' := by
  obtain ⟨P, B, w0, N0, ds⟩ := C
  obtain rfl : P = Tryd.prog := hC
  (try dsimp only at hB)
  (try dsimp only at hN)
  refine enter_in (N := 55) [(0, .pointer (some ⟨hb, 0, none⟩)), (1, .slice aA l.length ac), (2, .int .i64 m)] ha Tryd.func39 rfl Tryd.ntmps39 rfl rfl ?_
  refine cod_seq ?_
  refine cod_region ?_
  refine lst_assign rfl rfl ?_
  refine lst_nil ?_
  refine ex_then ?_
  refine cod_seq ?_
  refine cod_region ?_
  refine lst_assign rfl rfl ?_
  refine lst_nil ?_
  refine ex_then ?_
  refine cod_seq ?_
  refine cod_seq ?_
  refine cod_region ?_
  refine lst_move rfl rfl ?_
  refine lst_lit (vs := [(0, _), (1, _), (2, _), (3, _), (4, _), (5, _)]) rfl rfl Tryd.underlying25 F.ti3 rfl rfl rfl ?_
  intro b13
  refine lst_call_pul (X := Nat × Nat) (vs := [_, _]) hb (fun y => hatO nA nums.length nc (tk + 1) (y.1)) (fun y => y.1 < 18446744073709551616 ∧ y.2 ∈ [0, 1, 2, 3, 5, 21]) (fun y => .int .i64 (y.2 : Int)) rfl rfl F.ent92 (fun a w ha => (One_c (C := ⟨Tryd.prog, B, w0, _, _⟩) rfl hB hN (tk := tk) (st := st) (A := (some ⟨b13, 0, none⟩)) (c := 6) (l := [0, 1, 2, 3, 5, 21]) (by omega) hst (by simp) (by simp) (Rds.blk (b := b13) (ct := 3) (fun _ => rfl) (by simp [ncell])) ha).mono (fun e w' h => by obtain ⟨s', x, h1, h2, h3, h4⟩ := h; exact ⟨(s', x), ⟨h1, h2⟩, h3, h4⟩)) ?_
  rintro ⟨s1, i0⟩ ⟨hs1, hi0⟩
  dsimp only at hs1 hi0 ⊢
  refine lst_assign rfl rfl ?_
  refine lst_nil ?_
  refine ex_then ?_
  refine cod_block ?_
  refine cod_loop' (G := Nat) (fun g => g = i0) (fun g => 0) (fun g => [(0, .pointer (some ⟨hb, 0, none⟩)), (1, .slice aA l.length ac), (2, .int .i64 m), (7, .slice none 0 0), (8, .int .i64 (g : Int))]) (fun g => .blk hb (hatO nA nums.length nc (tk + 1) (s1)) :: T) (i0) rfl (by repeat (first | exact Sub.nil _ | refine Sub.cons rfl ?_)) (by repeat (first | exact Pck.nil _ | exact Pck.refl _ | (apply Pck.cons; focus ((repeat (first | exact Rem.here _ | apply Rem.there)); done)) | refine Pck.skip _ ?_)) ?_
  rintro i hi
  (try dsimp only at hi ⊢)
  refine cod_seq ?_
  refine cod_seq ?_
  refine cod_region ?_
  refine lst_move rfl rfl ?_
  refine lst_int rfl rfl rfl bin_gtr ?_
  refine lst_nil ?_
  refine ex_then ?_
  refine cod_cond_dec rfl (fun hc0 => ?_) (fun hc0 => ?_)
  · skip
    refine cod_skip ?_
    refine ex_then ?_
    refine cod_seq ?_
    refine cod_block ?_
    refine cod_seq ?_
    refine cod_region ?_
    refine lst_move rfl rfl ?_
    refine lst_move rfl rfl ?_
    refine lst_fn0 (v := .tuple #[.slice none 0 0, .int .i64 ((askedR l m 0 : Nat) : Int)]) (vs := [_, _]) rfl rfl F.ent44 (fun a w ha => rMay_bad aA ac l m hn w (hA _ _ _ _ _ ha rfl rfl rfl (fun r hr => by simp [hr]))) ?_
    refine lst_move rfl rfl ?_
    refine lst_extract rfl rfl rfl ?_
    refine lst_extract rfl rfl rfl ?_
    refine lst_assign rfl rfl ?_
    refine lst_assign rfl rfl ?_
    refine lst_nil ?_
    refine ex_then ?_
    refine cod_seq ?_
    refine cod_seq ?_
    refine cod_region ?_
    refine lst_cut1 7 31 (.bool true) ?_ ?_
    · skip
      refine lst_move rfl rfl ?_
      refine lst_int rfl rfl rfl bin_neq ?_
      refine lst_move rfl rfl ?_
      refine lst_split (t := 27) rfl (fun hg27 => ?_) (fun hg27 => ?_)
      · skip
        refine lst_off rfl rfl rfl ?_
        refine lst_off rfl rfl rfl ?_
        refine lst_off rfl rfl rfl ?_
        refine lst_pick_true rfl rfl rfl ?_
        refine lst_nil ?_
        exact ex_cut (.cons (by first | (simp_all [look]; done) | (simp_all [look]; omega)) (by repeat (first | exact Sub.nil _ | refine Sub.cons rfl ?_))) (by repeat (first | exact List.Sublist.refl _ | exact List.nil_sublist _ | refine List.Sublist.cons_cons _ ?_ | refine List.Sublist.cons _ ?_))
      · skip
        refine lst_on rfl rfl ?_
        refine lst_move rfl rfl ?_
        refine lst_on rfl rfl ?_
        refine lst_len rfl rfl Tryd.underlying25 ?_
        refine lst_on rfl rfl ?_
        refine lst_int rfl rfl rfl bin_eql ?_
        refine lst_pick_false rfl rfl rfl ?_
        refine lst_nil ?_
        exact ex_cut (.cons (by first | (simp_all [look]; done) | (simp_all [look]; omega)) (by repeat (first | exact Sub.nil _ | refine Sub.cons rfl ?_))) (by repeat (first | exact List.Sublist.refl _ | exact List.nil_sublist _ | refine List.Sublist.cons_cons _ ?_ | refine List.Sublist.cons _ ?_))
    refine lst_nil ?_
    refine ex_then ?_
    refine cod_cond_true rfl ?_
    refine cod_seq ?_
    refine cod_region ?_
    refine lst_move rfl rfl ?_
    refine lst_assign rfl rfl ?_
    refine lst_nil ?_
    refine ex_then ?_
    refine cod_ret ?_
    refine ex_then_ret ?_
    refine ex_block_ret ?_
    refine ex_then_ret ?_
    refine ex_then_ret ?_
    refine ex_block_ret ?_
    refine ex_then_ret ?_
    exact ex_ret rfl (fun a w ha => res_one rfl rfl ha) (fun _ _ ha' => ⟨tk + 1, s1, by omega, hs1, rfl, ha.back (ha'.pck (by repeat (first | exact Pck.nil _ | exact Pck.refl _ | (apply Pck.cons; focus ((repeat (first | exact Rem.here _ | apply Rem.there)); done)) | refine Pck.skip _ ?_)))⟩)
  · skip
    refine cod_exit ?_
    refine ex_then_exit ?_
    refine ex_then_exit ?_
    refine ex_block_exit ?_
    refine ex_then ?_
    refine cod_seq ?_
    refine cod_region ?_
    refine lst_move rfl rfl ?_
    refine lst_assign rfl rfl ?_
    refine lst_nil ?_
    refine ex_then ?_
    refine cod_ret ?_
    exact ex_ret rfl (fun a w ha => res_one rfl rfl ha) (fun _ _ ha' => ⟨tk + 1, s1, by omega, hs1, rfl, ha.back (ha'.pck (by repeat (first | exact Pck.nil _ | exact Pck.refl _ | (apply Pck.cons; focus ((repeat (first | exact Rem.here _ | apply Rem.there)); done)) | refine Pck.skip _ ?_)))⟩)

end Go.Proofs.YtofkhehcnfiopaaDoor.N
namespace Go.Proofs.YtofkhehcnfiopaaDoor.N
open Go Go.RowKit Go.Proofs
section
variable {C : Ctx} {fr : List (Nat × Value)} {hp hp' : List Res} {ops : Array Oper} {Q : Exit → Act → World → Prop} {rest : List Oper}
  {d : Nat} {ty : TypeId} {pos : String} {after : Array Edge}
/-- A call that turns a block of the caller's and hands back something new. -/
theorem lst_call_pul1 {X : Type} (b : Nat) {o : Obj} (o' : X → Obj) (r : X → Res) {T : List Res} {f : FuncId} {vs : List Value} {args : Array Operand} {ts : Array TypeId} (p : X → Prop) (val : X → Value) [hq : Pul b o hp T] (hd : Nat.blt d C.N = true)
    (hargs : args.toList.map (ev fr) = vs.map some) (hf : Enters C.P f)
    (hc : ∀ a w, At C fr (.blk b o :: T) a w → Calls C.P f vs.toArray w fun e w' => ∃ y, p y ∧ e = .returned (val y) ∧ At C fr (r y :: .blk b (o' y) :: T) a w')
    (k : ∀ y, p y → Lst C ops Q rest ((d, val y) :: fr) (r y :: .blk b (o' y) :: T)) : Lst C ops Q (⟨some d, .call { callee := .value (.func f), args := args, argTypes := ts }, ty, pos, after, none⟩ :: rest) fr hp := by
  refine lst_call (first := []) (cap := []) (p := p) (val := val) (rs := fun y => r y :: .blk b (o' y) :: T) hd rfl hargs hf (fun a w ha => ?_) k
  simp only [List.nil_append, List.append_nil]
  exact hc a w (ha.permed hq.perm)
end
end Go.Proofs.YtofkhehcnfiopaaDoor.N
namespace Go.Proofs.YtofkhehcnfiopaaDoor.N
open Go Go.RowKit Go.Proofs
theorem F.ti22 : TI Tryd.prog 22 (.slice none 0 0) 1 24 := TI.of (by kernel_rfl)
theorem several_c {C : Ctx} {fr : List (Nat × Value)} {T : List Res} {a : Act} {w : World} (hC : C.P = Tryd.prog) {hb tk st nc : Nat} {nA : Option Addr} {nums : List Int} (hB : C.w0.heap.size = C.B) (hN : RdL icell 1 C.w0 nA nums) (htk : tk ≤ 900000) (hst : st < 18446744073709551616) {A : Option Addr} {n c : Nat} {x : RA} (ha : At C fr (.blk hb (hatO nA nums.length nc (tk) (st)) :: T) a w) : Calls C.P 23 #[.slice A n c, .agg [.int .i64 x.needs, .int .i64 x.no, .int .i64 x.takes, .int .i64 x.leaves, .int .i64 x.cost].toArray, .pointer (some ⟨hb, 0, none⟩)] w fun e w' => ∃ (tk' st' b : Nat) (l1 l2 : List Ag) (A1 A2 : Option Addr) (c1 c2 : Nat), tk' ≤ tk + 400 ∧ st' < 18446744073709551616 ∧ l1.length ≤ 4 ∧ (∀ y ∈ l1, y.ok) ∧ l2.length ≤ 3 ∧ (∀ y ∈ l2, y.ok) ∧ e = .returned (.slice (some ⟨b, 0, none⟩) 3 3) ∧ At C fr (.blk b (.cells [.slice A n c, .slice A1 l1.length c1, .slice A2 (l2.length + 1) c2].toArray 22 (0, 0)) :: .row 24 5 A1 l1.length c1 (l1.flatMap Ag.cells) :: .row 24 5 A2 (l2.length + 1) c2 (l2.flatMap Ag.cells ++ [.int .i64 x.needs, .int .i64 x.no, .int .i64 x.takes, .int .i64 x.leaves, .int .i64 x.cost]) :: .blk hb (hatO nA nums.length nc (tk') (st')) :: T) a w' := by
  obtain ⟨P, B, w0, N0, ds⟩ := C
  obtain rfl : P = Tryd.prog := hC
  (try dsimp only at hB)
  (try dsimp only at hN)
  refine enter_in (N := 18) [(0, .slice A n c), (1, .agg [.int .i64 x.needs, .int .i64 x.no, .int .i64 x.takes, .int .i64 x.leaves, .int .i64 x.cost].toArray), (2, .pointer (some ⟨hb, 0, none⟩))] ha Tryd.func23 rfl Tryd.ntmps23 rfl rfl ?_
  refine cod_seq ?_
  refine cod_region ?_
  refine lst_box rfl rfl ?_
  intro b4
  refine lst_assign rfl rfl ?_
  refine lst_nil ?_
  refine ex_then ?_
  refine cod_seq ?_
  refine cod_region ?_
  refine lst_move rfl rfl ?_
  refine lst_call_pul1 (X := Nat × Nat × List Ag × Option Addr × Nat) (vs := [_, _, _]) hb (fun y => hatO nA nums.length nc y.1 y.2.1) (fun y => .row 24 5 y.2.2.2.1 y.2.2.1.length y.2.2.2.2 (y.2.2.1.flatMap Ag.cells)) (fun y => y.1 ≤ tk + 200 ∧ y.2.1 < 18446744073709551616 ∧ y.2.2.1.length ≤ 4 ∧ ∀ x ∈ y.2.2.1, x.ok) (fun y => .slice y.2.2.2.1 y.2.2.1.length y.2.2.2.2) rfl rfl F.ent34 (fun a w ha => (AgentsOf_c (C := ⟨Tryd.prog, B, w0, _, _⟩) rfl hB hN (tk := tk) (st := st) (many := 4) (few := 4) (by omega) (by omega) (by omega) (by omega) (by omega) ha).mono (fun e w' h => by obtain ⟨t', s', l, A', c', h1, h2, h3, h4, h5, h6⟩ := h; exact ⟨(t', s', l, A', c'), ⟨by (try dsimp only); omega, h2, h3, h4⟩, h5, h6⟩)) ?_
  rintro ⟨t1, s1, l1, A1, c1⟩ ⟨ht1, hs1, hl1, ho1⟩
  dsimp only at ht1 hs1 hl1 ho1 ⊢
  refine lst_assign rfl rfl ?_
  refine lst_nil ?_
  refine ex_then ?_
  refine cod_seq ?_
  refine any_begin [.b hb] F.follows 9 rfl [false, false, false, false, false, false, false, false, false] rfl ?_
  refine any_take (listed' := [true, false, false, false, false, false, false, false, false].toArray) 0 rfl rfl rfl (by kernel_rfl) (by kernel_rfl) (by kernel_rfl) (by repeat (first | exact List.Sublist.refl _ | exact List.nil_sublist _ | refine List.Sublist.cons_cons _ ?_ | refine List.Sublist.cons _ ?_)) (yld_move rfl) rfl ?_
  refine any_take (listed' := [true, true, false, false, false, false, false, false, false].toArray) 1 rfl rfl rfl (by kernel_rfl) (by kernel_rfl) (by kernel_rfl) (by repeat (first | exact List.Sublist.refl _ | exact List.nil_sublist _ | refine List.Sublist.cons_cons _ ?_ | refine List.Sublist.cons _ ?_)) (yld_move rfl) rfl ?_
  refine any_take (listed' := [true, true, true, false, false, false, false, false, false].toArray) 2 rfl rfl rfl (by kernel_rfl) (by kernel_rfl) (by kernel_rfl) (by repeat (first | exact List.Sublist.refl _ | exact List.nil_sublist _ | refine List.Sublist.cons_cons _ ?_ | refine List.Sublist.cons _ ?_)) (yld_move rfl) rfl ?_
  refine any_take (listed' := [true, true, true, false, true, false, false, false, false].toArray) 4 rfl rfl rfl (by kernel_rfl) (by kernel_rfl) (by kernel_rfl) (by repeat (first | exact List.Sublist.refl _ | exact List.nil_sublist _ | refine List.Sublist.cons_cons _ ?_ | refine List.Sublist.cons _ ?_)) (yld_loadN rfl F.agg24 F.ti24) rfl ?_
  refine any_two (l1 := [true, true, true, true, true, false, false, false, false].toArray) (l2 := [true, true, true, false, true, true, false, false, false].toArray) 3 5 (by kernel_rfl) rfl rfl rfl rfl ?_ ?_
  · skip
    refine lst_call_pul1 (X := Nat × Nat × List Ag × Option Addr × Nat) (vs := [_, _, _]) hb (fun y => hatO nA nums.length nc y.1 y.2.1) (fun y => .row 24 5 y.2.2.2.1 y.2.2.1.length y.2.2.2.2 (y.2.2.1.flatMap Ag.cells)) (fun y => y.1 ≤ tk + 400 ∧ y.2.1 < 18446744073709551616 ∧ y.2.2.1.length ≤ 3 ∧ ∀ x ∈ y.2.2.1, x.ok) (fun y => .slice y.2.2.2.1 y.2.2.1.length y.2.2.2.2) rfl rfl F.ent34 (fun a w ha => (AgentsOf_c (C := ⟨Tryd.prog, B, w0, _, _⟩) rfl hB hN (tk := t1) (st := s1) (many := 3) (few := 3) (by omega) (by omega) (by omega) (by omega) (by omega) ha).mono (fun e w' h => by obtain ⟨t', s', l, A', c', h1, h2, h3, h4, h5, h6⟩ := h; exact ⟨(t', s', l, A', c'), ⟨by (try dsimp only); omega, h2, h3, h4⟩, h5, h6⟩)) ?_
    rintro ⟨t2, s2, l2, A2, c2⟩ ⟨ht2, hs2, hl2, ho2⟩
    dsimp only at ht2 hs2 hl2 ho2 ⊢
    refine lst_nil ?_
    refine any_next (by repeat (first | exact List.Sublist.refl _ | exact List.nil_sublist _ | refine List.Sublist.cons_cons _ ?_ | refine List.Sublist.cons _ ?_)) ?_
    refine any_one (listed' := [true, true, true, true, true, true, false, false, false].toArray) 5 (by kernel_rfl) rfl rfl ?_
    refine lst_litN (vs := [(0, _)]) [_, _, _, _, _] rfl rfl Tryd.underlying22 F.ti24 rfl rfl rfl ⟨rfl, [_, _, _, _, _], [], rfl, rfl, rfl, rfl⟩ ?_
    intro b15
    refine lst_nil ?_
    refine any_next (by repeat (first | exact List.Sublist.refl _ | exact List.nil_sublist _ | refine List.Sublist.cons_cons _ ?_ | refine List.Sublist.cons _ ?_)) ?_
    refine any_one (listed' := [true, true, true, true, true, true, true, false, false].toArray) 6 (by kernel_rfl) rfl rfl ?_
    refine lst_append rfl rfl rfl Tryd.underlying22 F.ti24 rfl rfl rfl (by unfold maxLen; omega) (by omega) ?_
    intro A3 c3
    refine lst_nil ?_
    refine any_next (by repeat (first | exact List.Sublist.refl _ | exact List.nil_sublist _ | refine List.Sublist.cons_cons _ ?_ | refine List.Sublist.cons _ ?_)) ?_
    refine any_one (listed' := [true, true, true, true, true, true, true, true, false].toArray) 7 (by kernel_rfl) rfl rfl ?_
    refine lst_lit (vs := [(0, _), (1, _), (2, _)]) rfl rfl Tryd.underlying29 F.ti22 rfl rfl rfl ?_
    intro b17
    refine lst_nil ?_
    refine any_next (by repeat (first | exact List.Sublist.refl _ | exact List.nil_sublist _ | refine List.Sublist.cons_cons _ ?_ | refine List.Sublist.cons _ ?_)) ?_
    refine any_take (listed' := [true, true, true, true, true, true, true, true, true].toArray) 8 rfl rfl rfl (by kernel_rfl) (by kernel_rfl) (by kernel_rfl) (by repeat (first | exact List.Sublist.refl _ | exact List.nil_sublist _ | refine List.Sublist.cons_cons _ ?_ | refine List.Sublist.cons _ ?_)) (yld_assign rfl) rfl ?_
    refine any_done rfl (by kernel_rfl) ?_
    refine ex_then ?_
    refine cod_ret ?_
    exact ex_ret rfl (fun a w ha => res_one rfl rfl ha) (fun _ _ ha' => ⟨t2, s2, b17, l1, l2, A1, A3, c1, c3, ht2, hs2, hl1, ho1, hl2, ho2, rfl, ha.back (ha'.pck (by repeat (first | exact Pck.nil _ | exact Pck.refl _ | (apply Pck.cons; focus ((repeat (first | exact Rem.here _ | apply Rem.there)); done)) | refine Pck.skip _ ?_)))⟩)
  · skip
    refine lst_litN (vs := [(0, _)]) [_, _, _, _, _] rfl rfl Tryd.underlying22 F.ti24 rfl rfl rfl ⟨rfl, [_, _, _, _, _], [], rfl, rfl, rfl, rfl⟩ ?_
    intro b15
    refine lst_nil ?_
    refine any_next (by repeat (first | exact List.Sublist.refl _ | exact List.nil_sublist _ | refine List.Sublist.cons_cons _ ?_ | refine List.Sublist.cons _ ?_)) ?_
    refine any_one (listed' := [true, true, true, true, true, true, false, false, false].toArray) 3 (by kernel_rfl) rfl rfl ?_
    refine lst_call_pul1 (X := Nat × Nat × List Ag × Option Addr × Nat) (vs := [_, _, _]) hb (fun y => hatO nA nums.length nc y.1 y.2.1) (fun y => .row 24 5 y.2.2.2.1 y.2.2.1.length y.2.2.2.2 (y.2.2.1.flatMap Ag.cells)) (fun y => y.1 ≤ tk + 400 ∧ y.2.1 < 18446744073709551616 ∧ y.2.2.1.length ≤ 3 ∧ ∀ x ∈ y.2.2.1, x.ok) (fun y => .slice y.2.2.2.1 y.2.2.1.length y.2.2.2.2) rfl rfl F.ent34 (fun a w ha => (AgentsOf_c (C := ⟨Tryd.prog, B, w0, _, _⟩) rfl hB hN (tk := t1) (st := s1) (many := 3) (few := 3) (by omega) (by omega) (by omega) (by omega) (by omega) ha).mono (fun e w' h => by obtain ⟨t', s', l, A', c', h1, h2, h3, h4, h5, h6⟩ := h; exact ⟨(t', s', l, A', c'), ⟨by (try dsimp only); omega, h2, h3, h4⟩, h5, h6⟩)) ?_
    rintro ⟨t2, s2, l2, A2, c2⟩ ⟨ht2, hs2, hl2, ho2⟩
    dsimp only at ht2 hs2 hl2 ho2 ⊢
    refine lst_nil ?_
    refine any_next (by repeat (first | exact List.Sublist.refl _ | exact List.nil_sublist _ | refine List.Sublist.cons_cons _ ?_ | refine List.Sublist.cons _ ?_)) ?_
    refine any_one (listed' := [true, true, true, true, true, true, true, false, false].toArray) 6 (by kernel_rfl) rfl rfl ?_
    refine lst_append rfl rfl rfl Tryd.underlying22 F.ti24 rfl rfl rfl (by unfold maxLen; omega) (by omega) ?_
    intro A3 c3
    refine lst_nil ?_
    refine any_next (by repeat (first | exact List.Sublist.refl _ | exact List.nil_sublist _ | refine List.Sublist.cons_cons _ ?_ | refine List.Sublist.cons _ ?_)) ?_
    refine any_one (listed' := [true, true, true, true, true, true, true, true, false].toArray) 7 (by kernel_rfl) rfl rfl ?_
    refine lst_lit (vs := [(0, _), (1, _), (2, _)]) rfl rfl Tryd.underlying29 F.ti22 rfl rfl rfl ?_
    intro b17
    refine lst_nil ?_
    refine any_next (by repeat (first | exact List.Sublist.refl _ | exact List.nil_sublist _ | refine List.Sublist.cons_cons _ ?_ | refine List.Sublist.cons _ ?_)) ?_
    refine any_take (listed' := [true, true, true, true, true, true, true, true, true].toArray) 8 rfl rfl rfl (by kernel_rfl) (by kernel_rfl) (by kernel_rfl) (by repeat (first | exact List.Sublist.refl _ | exact List.nil_sublist _ | refine List.Sublist.cons_cons _ ?_ | refine List.Sublist.cons _ ?_)) (yld_assign rfl) rfl ?_
    refine any_done rfl (by kernel_rfl) ?_
    refine ex_then ?_
    refine cod_ret ?_
    exact ex_ret rfl (fun a w ha => res_one rfl rfl ha) (fun _ _ ha' => ⟨t2, s2, b17, l1, l2, A1, A3, c1, c3, ht2, hs2, hl1, ho1, hl2, ho2, rfl, ha.back (ha'.pck (by repeat (first | exact Pck.nil _ | exact Pck.refl _ | (apply Pck.cons; focus ((repeat (first | exact Rem.here _ | apply Rem.there)); done)) | refine Pck.skip _ ?_)))⟩)

end Go.Proofs.YtofkhehcnfiopaaDoor.N
namespace Go.Proofs.YtofkhehcnfiopaaDoor.N
open Go Go.RowKit Go.Proofs
theorem sel_ex {P : Option Addr → Nat → List RA → Prop} {A0 A1 A2 : Option Addr} {c0 c1 c2 : Nat} {L0 L1 L2 : List RA} (h0 : P A0 c0 L0) (h1 : P A1 c1 L1) (h2 : P A2 c2 L2) {i : Nat} (hi : i < 3) :
    ∃ A c L, ([.slice A0 L0.length c0, .slice A1 L1.length c1, .slice A2 L2.length c2] : List Value)[i]? = some (.slice A L.length c) ∧ P A c L := by
  rcases (show i = 0 ∨ i = 1 ∨ i = 2 by omega) with rfl | rfl | rfl
  · exact ⟨A0, c0, L0, rfl, h0⟩
  · exact ⟨A1, c1, L1, rfl, h1⟩
  · exact ⟨A2, c2, L2, rfl, h2⟩
theorem two_ex {m n : Int} {k : Nat} (hk : k < 2) : ∃ x, ([.int .i64 m, .int .i64 n] : List Value)[k]? = some (.int .i64 x) := by
  rcases (show k = 0 ∨ k = 1 by omega) with rfl | rfl
  · exact ⟨m, rfl⟩
  · exact ⟨n, rfl⟩
theorem raw_cells (l : List Ag) : (l.map Ag.raw).flatMap RA.cells = l.flatMap Ag.cells := by
  induction l with
  | nil => rfl
  | cons x l ih => rw [List.map_cons, List.flatMap_cons, List.flatMap_cons, ih]; rfl
theorem raw_wf {x : Ag} (h : x.ok) : x.raw.wf := by
  obtain ⟨h1, h2, h3, h4, _, h5⟩ := h
  refine ⟨?_, ?_, ?_, ?_, ?_⟩ <;> unfold W64 Ag.raw <;> dsimp only <;> omega
theorem Rds.ag {C : Ctx} {T : List Res} {A : Option Addr} {l : List RA} (hc : checkR l = 0) (h : Rds RA.cells 5 C T A l) : Rds Ag.cells 5 C T A (agsOf l) :=
  fun C' fr hp a w ha h1 h2 h3 hm => (h C' fr hp a w ha h1 h2 h3 hm).ag hc
theorem Rds.sub {α : Type} {cells : α → List Value} {size : Nat} {C : Ctx} {T T' : List Res} {A : Option Addr} {l : List α} (h : Rds cells size C T A l) (hs : ∀ r ∈ T, r ∈ T') : Rds cells size C T' A l :=
  fun C' fr hp a w ha h1 h2 h3 hm => h C' fr hp a w ha h1 h2 h3 (fun r hr => hm r (hs r hr))
theorem wayOf_all {C : Ctx} {fr : List (Nat × Value)} {T : List Res} {a : Act} {w : World} (hC : C.P = Tryd.prog) {hb tk st nc : Nat} {nA : Option Addr} {nums : List Int} (hB : C.w0.heap.size = C.B) (hN : RdL icell 1 C.w0 nA nums) (htk : tk ≤ 900000) (hst : st < 18446744073709551616) {l : List RA} {aA : Option Addr} {ac : Nat} {m : Int} (hA : Rds RA.cells 5 C T aA l)
    (ha : At C fr (.blk hb (hatO nA nums.length nc tk st) :: T) a w) : Calls C.P 39 #[.pointer (some ⟨hb, 0, none⟩), .slice aA l.length ac, .int .i64 m] w fun e w' => ∃ (tk' st' : Nat) (W : List Nat) (A : Option Addr) (c : Nat), tk' ≤ tk + 70 ∧ st' < 18446744073709551616 ∧ W.length ≤ 21 ∧ e = .returned (.slice A W.length c) ∧ At C fr (.row 3 1 A W.length c (ints W) :: .blk hb (hatO nA nums.length nc tk' st') :: T) a w' := by
  by_cases h0 : askedR l m 0 = 0
  · obtain ⟨hc, hb', _⟩ := askedR_zero h0
    obtain ⟨f, rfl, hf⟩ := nat_of_inB hb'
    have h := wayOf_ok (ac := ac) hC hB hN htk hst (checkR_oks hc) hf (hA.ag hc) ha
    have e : (l.map RA.ag).length = l.length := List.length_map ..
    rw [e] at h
    refine h.mono fun e w' h => ?_
    obtain ⟨tk', st', W, A, c, h1, h2, h3, _, h5, h6⟩ := h
    exact ⟨tk', st', W, A, c, h1, h2, h3, h5, h6⟩
  · refine (wayOf_bad (ac := ac) hC hB hN htk hst h0 hA ha).mono fun e w' h => ?_
    obtain ⟨tk', st', h1, h2, h3, h4⟩ := h
    exact ⟨tk', st', [], none, 0, h1, h2, by simp, h3, h4.add_nil 3 1⟩
end Go.Proofs.YtofkhehcnfiopaaDoor.N
namespace Go.Proofs.YtofkhehcnfiopaaDoor.N
open Go Go.RowKit Go.Proofs
theorem Rds.sub' {α : Type} {cells : α → List Value} {size : Nat} {C C' : Ctx} {T T' : List Res} {A : Option Addr} {l : List α} (h : Rds cells size C T A l) (hs : ∀ r ∈ T, r ∈ T') (hP : C'.P = C.P := by rfl) (hB : C'.B = C.B := by rfl) (hw : C'.w0 = C.w0 := by rfl) : Rds cells size C' T' A l :=
  fun D fr hp a w ha h1 h2 h3 hm => h D fr hp a w ha (h1.trans hP) (h2.trans hB) (h3.trans hw) (fun r hr => hm r (hs r hr))
theorem mayL_le (l : List RA) (m : Int) : (mayL l m).length ≤ 140737488355328 := by
  unfold mayL
  split
  · rename_i h
    have h1 := canTo_len (agsOf l) (usedAll (agsOf l).length) m.toNat (agsOf l).length
    have h2 := (checkR_oks (askedR_zero h).1).1
    have h3 : (agsOf l).length = (l.map RA.ag).length := rfl
    omega
  · simp
theorem idleR_le (l : List RA) (m : Int) : (idleR l m).length ≤ 140737488355328 := by
  unfold idleR
  split
  · rename_i h
    have h0 := idleL_len (agsOf l) m.toNat (canTo (agsOf l) (usedAll (agsOf l).length) m.toNat (agsOf l).length)
    have h1 := canTo_len (agsOf l) (usedAll (agsOf l).length) m.toNat (agsOf l).length
    have h2 := (checkR_oks (askedR_zero h).1).1
    have h3 : (agsOf l).length = (l.map RA.ag).length := rfl
    omega
  · simp
theorem putR_le (l : List RA) (m : Int) (way : List Int) : (putR l m way).1.length ≤ 140737488355328 := by
  unfold putR
  split
  · split
    · simp
    · rename_i h
      cases e : alongE (agsOf l) m.toNat way with
      | error c => simp
      | ok o =>
        have := alongE_len e
        show o.length ≤ _
        omega
  · simp
end Go.Proofs.YtofkhehcnfiopaaDoor.N
