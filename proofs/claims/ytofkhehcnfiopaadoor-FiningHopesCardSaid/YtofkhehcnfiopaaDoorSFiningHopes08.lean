/- Parts of the walks of the laws on fining, those that FiningHopes needs: F38, F39, Puts3, BothP, Sx13, Far2, F46, All4, ChsP, F47, FewP, FewQ, Sx14, Sx15. -/
import Derived.Test.YtofkhehcnfiopaaDoorSFiningHopes07
import Derived.Test.YtofkhehcnfiopaaDoorProg
import Derived.Test.YtofkhehcnfiopaaDoorSFiningHopes01
import Derived.RangeFuncSeq
import Derived.TacticsIn
import Derived.RecoverIn
import Derived.Test.YtofkhehcnfiopaaDoorSFiningHopes02
namespace Go.Proofs.YtofkhehcnfiopaaDoor.N
open Go Go.RowKit Go.Proofs

theorem rPuts_c (A : Option Addr) (c : Nat) (ags : List Ag) (hok : Oks ags) (p : Nat) (hp : p < 64) (used : Nat) (sh : Int) (hU : ∀ i, i < ags.length → (used.testBit i = true ↔ (i : Int) ≠ sh)) (w : World) (hA : RdL Ag.cells 5 w A ags) : Calls Tryd.prog 103 #[.slice A ags.length c, .int .i64 (p : Int), .int .i64 sh] w fun e w' => ∃ (L : List Nat) (b : Nat), Dst ags used p L ∧ e = .returned (.slice (some ⟨b, 0, none⟩) 64 64) ∧ Grew w w' [.row 3 1 (some ⟨b, 0, none⟩) 64 64 (ints L)] := by
  refine enter (N := 83) [(0, .slice A ags.length c), (1, .int .i64 (p : Int)), (2, .int .i64 sh)] Tryd.func103 rfl Tryd.ntmps103 rfl rfl ?_
  refine cod_seq ?_
  refine cod_region ?_
  refine lst_assign rfl rfl ?_
  refine lst_nil ?_
  refine ex_then ?_
  refine cod_seq ?_
  refine cod_region ?_
  refine lst_make_ints (n := 64) rfl rfl rfl Tryd.underlying25 F.ti3 (by omega) ?_
  intro bL
  rw [← initN_zero p]
  refine lst_assign rfl rfl ?_
  refine lst_nil ?_
  refine ex_then ?_
  refine cod_seq ?_
  refine cod_seq ?_
  refine cod_region ?_
  refine lst_assign rfl rfl ?_
  refine lst_nil ?_
  refine ex_then ?_
  refine cod_block ?_
  refine cod_loop (G := Nat) (fun k => k ≤ 64) (fun k => 64 - k) (fun k => [(0, .slice A ags.length c), (1, .int .i64 (p : Int)), (2, .int .i64 sh), (7, .slice (some ⟨bL, 0, none⟩) 64 64), (8, .int .i64 (k : Int))]) (fun k => [.row 3 1 (some ⟨bL, 0, none⟩) 64 64 (ints (initN p k))]) 0 (Nat.zero_le _) (by repeat (first | exact Sub.nil _ | refine Sub.cons rfl ?_)) (by repeat (first | exact List.Sublist.refl _ | exact List.nil_sublist _ | refine List.Sublist.cons_cons _ ?_ | refine List.Sublist.cons _ ?_)) ?_
  intro k hk
  (try dsimp only at hk ⊢)
  refine cod_seq ?_
  refine cod_seq ?_
  refine cod_region ?_
  refine lst_move rfl rfl ?_
  refine lst_int rfl rfl rfl bin_leq ?_
  refine lst_nil ?_
  refine ex_then ?_
  refine cod_cond_dec rfl (fun hc0 => ?_) (fun hc0 => ?_)
  · skip
    have hk6 : k < 64 := by omega
    refine cod_skip ?_
    refine ex_then ?_
    refine cod_seq ?_
    refine cod_block ?_
    refine cod_seq ?_
    refine cod_region ?_
    refine lst_move rfl rfl ?_
    refine lst_move rfl rfl ?_
    refine lst_index (j := k) rfl rfl rfl Tryd.underlying25 F.ti3 rfl hk6 ?_
    refine lst_store_row (N := 64) (xs := ints (initN p k)) (out := ints ((initN p k).set k farN)) rfl rfl F.ti3 rfl (by rw [Nat.zero_add, Nat.mul_one]; exact splice_ints (by rw [initN_len]; exact hk6)) (by repeat (first | exact Upd.head _ | apply Upd.tail)) ?_
    refine lst_nil ?_
    refine ex_then ?_
    refine cod_seq ?_
    refine cod_region ?_
    refine lst_move rfl rfl ?_
    refine lst_move rfl rfl ?_
    refine lst_fn0 (vs := [_, _]) rfl rfl F.ent37 (fun a w ha => Clear_c k p hk6 hp w) ?_
    refine lst_nil ?_
    refine ex_then ?_
    refine cod_cond_dec rfl (fun hc1 => ?_) (fun hc1 => ?_)
    · skip
      refine cod_region ?_
      refine lst_move rfl rfl ?_
      refine lst_move rfl rfl ?_
      refine lst_index (j := k) rfl rfl rfl Tryd.underlying25 F.ti3 rfl hk6 ?_
      refine lst_store_row (N := 64) (xs := ints ((initN p k).set k farN)) (out := ints (((initN p k).set k farN).set k 0)) rfl rfl F.ti3 rfl (by rw [Nat.zero_add, Nat.mul_one]; exact splice_ints (by rw [List.length_set, initN_len]; exact hk6)) (by repeat (first | exact Upd.head _ | apply Upd.tail)) ?_
      rw [initN_set0 hk6 hc1]
      refine lst_nil ?_
      refine ex_block_normal ?_
      refine ex_then ?_
      refine cod_region ?_
      refine lst_move rfl rfl ?_
      refine lst_int rfl rfl rfl (fun w => bin_add w (wrap_i64' _ (by omega) (by omega))) ?_
      refine lst_assign rfl rfl ?_
      refine lst_nil ?_
      refine ex_round (k + 1) (by omega) (by (try dsimp only); omega) (by repeat (first | exact Sub.nil _ | refine Sub.cons rfl ?_)) (by repeat (first | exact List.Sublist.refl _ | exact List.nil_sublist _ | refine List.Sublist.cons_cons _ ?_ | refine List.Sublist.cons _ ?_))
    · skip
      rw [initN_far hk6 hc1]
      refine cod_skip ?_
      refine ex_block_normal ?_
      refine ex_then ?_
      refine cod_region ?_
      refine lst_move rfl rfl ?_
      refine lst_int rfl rfl rfl (fun w => bin_add w (wrap_i64' _ (by omega) (by omega))) ?_
      refine lst_assign rfl rfl ?_
      refine lst_nil ?_
      refine ex_round (k + 1) (by omega) (by (try dsimp only); omega) (by repeat (first | exact Sub.nil _ | refine Sub.cons rfl ?_)) (by repeat (first | exact List.Sublist.refl _ | exact List.nil_sublist _ | refine List.Sublist.cons_cons _ ?_ | refine List.Sublist.cons _ ?_))
  · skip
    obtain rfl : k = 64 := by omega
    refine cod_exit ?_
    refine ex_then_exit ?_
    refine ex_then_exit ?_
    refine ex_block_exit ?_
    refine ex_then ?_
    refine cod_seq ?_
    refine cod_seq ?_
    refine cod_region ?_
    refine lst_assign rfl rfl ?_
    refine lst_nil ?_
    refine ex_then ?_
    refine cod_block ?_
    refine cod_loop (G := Nat × List Nat) (fun g => g.1 ≤ 64 ∧ RI ags used p g.1 0 0 g.2) (fun g => 64 - g.1) (fun g => [(0, .slice A ags.length c), (1, .int .i64 (p : Int)), (2, .int .i64 sh), (7, .slice (some ⟨bL, 0, none⟩) 64 64), (9, .int .i64 (g.1 : Int))]) (fun g => [.row 3 1 (some ⟨bL, 0, none⟩) 64 64 (ints (g.2))]) (0, initN p 64) ⟨Nat.zero_le _, RI.start⟩ (by repeat (first | exact Sub.nil _ | refine Sub.cons rfl ?_)) (by repeat (first | exact List.Sublist.refl _ | exact List.nil_sublist _ | refine List.Sublist.cons_cons _ ?_ | refine List.Sublist.cons _ ?_)) ?_
    rintro ⟨r, L⟩ ⟨hr, hI⟩
    (try dsimp only at hr hI ⊢)
    refine cod_seq ?_
    refine cod_seq ?_
    refine cod_region ?_
    refine lst_move rfl rfl ?_
    refine lst_int rfl rfl rfl bin_leq ?_
    refine lst_nil ?_
    refine ex_then ?_
    refine cod_cond_dec rfl (fun hc2 => ?_) (fun hc2 => ?_)
    · skip
      refine cod_skip ?_
      refine ex_then ?_
      refine cod_seq ?_
      refine cod_block ?_
      refine cod_seq ?_
      refine cod_region ?_
      refine lst_assign rfl rfl ?_
      refine lst_nil ?_
      refine ex_then ?_
      refine cod_block ?_
      refine cod_loop (G := Nat × List Nat) (fun g => g.1 ≤ 64 ∧ RI ags used p r g.1 0 g.2) (fun g => 64 - g.1) (fun g => [(0, .slice A ags.length c), (1, .int .i64 (p : Int)), (2, .int .i64 sh), (7, .slice (some ⟨bL, 0, none⟩) 64 64), (9, .int .i64 (r : Int)), (10, .int .i64 (g.1 : Int))]) (fun g => [.row 3 1 (some ⟨bL, 0, none⟩) 64 64 (ints (g.2))]) (0, L) ⟨Nat.zero_le _, hI⟩ (by repeat (first | exact Sub.nil _ | refine Sub.cons rfl ?_)) (by repeat (first | exact List.Sublist.refl _ | exact List.nil_sublist _ | refine List.Sublist.cons_cons _ ?_ | refine List.Sublist.cons _ ?_)) ?_
      rintro ⟨m, L⟩ ⟨hm, hI⟩
      (try dsimp only at hm hI ⊢)
      refine cod_seq ?_
      refine cod_seq ?_
      refine cod_region ?_
      refine lst_move rfl rfl ?_
      refine lst_int rfl rfl rfl bin_leq ?_
      refine lst_nil ?_
      refine ex_then ?_
      refine cod_cond_dec rfl (fun hc3 => ?_) (fun hc3 => ?_)
      · skip
        have hm6 : m < 64 := by omega
        refine cod_skip ?_
        refine ex_then ?_
        refine cod_seq ?_
        refine cod_block ?_
        refine cod_seq ?_
        refine cod_region ?_
        refine lst_assign rfl rfl ?_
        refine lst_nil ?_
        refine ex_then ?_
        refine cod_block ?_
        refine cod_loop (G := Nat × List Nat) (fun g => g.1 ≤ ags.length ∧ RI ags used p r m g.1 g.2) (fun g => ags.length - g.1) (fun g => [(0, .slice A ags.length c), (1, .int .i64 (p : Int)), (2, .int .i64 sh), (7, .slice (some ⟨bL, 0, none⟩) 64 64), (9, .int .i64 (r : Int)), (10, .int .i64 (m : Int)), (11, .int .i64 (g.1 : Int))]) (fun g => [.row 3 1 (some ⟨bL, 0, none⟩) 64 64 (ints (g.2))]) (0, L) ⟨Nat.zero_le _, hI⟩ (by repeat (first | exact Sub.nil _ | refine Sub.cons rfl ?_)) (by repeat (first | exact List.Sublist.refl _ | exact List.nil_sublist _ | refine List.Sublist.cons_cons _ ?_ | refine List.Sublist.cons _ ?_)) ?_
        rintro ⟨i, L⟩ ⟨hi, hI⟩
        (try dsimp only at hi hI ⊢)
        refine cod_seq ?_
        refine cod_seq ?_
        refine cod_region ?_
        refine lst_move rfl rfl ?_
        refine lst_move rfl rfl ?_
        refine lst_len rfl rfl Tryd.underlying22 ?_
        refine lst_int rfl rfl rfl bin_lss ?_
        refine lst_nil ?_
        refine ex_then ?_
        refine cod_cond_dec rfl (fun hc4 => ?_) (fun hc4 => ?_)
        · skip
          have hi0 : i < ags.length := by omega
          have hk' : i < ags.length := by omega
          obtain ⟨b, o, rfl, hb, hcell⟩ := hA (by omega)
          obtain ⟨x, hx⟩ : ∃ x, ags[i]? = some x := ⟨_, List.getElem?_eq_getElem hk'⟩
          have hxo : x.ok := hok.2 x (List.mem_of_getElem? hx)
          have hxd : ags.getD i default = x := by rw [List.getD_eq_getElem?_getD, hx]; rfl
          have h4 := hok.1
          have hlen := hI.len
          have hg6 : putN x m < 64 := putN_lt hxo hm6
          refine cod_skip ?_
          refine ex_then ?_
          refine cod_seq ?_
          refine cod_block ?_
          refine cod_seq ?_
          refine cod_region ?_
          refine lst_cut1 11 51 (.bool (decide ((i : Int) ≠ sh) && mayN x m)) ?_ ?_
          · skip
            refine lst_move rfl rfl ?_
            refine lst_move rfl rfl ?_
            refine lst_int rfl rfl rfl bin_neq ?_
            refine lst_move rfl rfl ?_
            refine lst_split_bool (t := 44) rfl (fun hg44 => ?_) (fun hg44 => ?_)
            · skip
              refine lst_on rfl rfl ?_
              refine lst_move rfl rfl ?_
              refine lst_on rfl rfl ?_
              refine lst_move rfl rfl ?_
              refine lst_on rfl rfl ?_
              refine lst_index (j := i) rfl rfl rfl Tryd.underlying22 F.ti24 rfl hk' ?_
              refine lst_on rfl rfl ?_
              refine lst_loadN_at (l := [.int .i64 (x.needs : Int), .int .i64 (x.no : Int), .int .i64 (x.takes : Int), .int .i64 (x.leaves : Int), .int .i64 (x.cost : Int)]) rfl rfl F.agg24 F.ti24 rfl (fun a w ha j u hu => ha.old (hcell i x hx j u hu) hb) ?_
              refine lst_on rfl rfl ?_
              refine lst_move rfl rfl ?_
              refine lst_on rfl rfl ?_
              refine lst_fn0 (vs := [_, _]) rfl rfl F.ent97 (fun a w ha => rmay_c x m hxo hm6 w) ?_
              refine lst_pick_true rfl rfl rfl ?_
              refine lst_nil ?_
              exact ex_cut (.cons (by simp_all [look]) (by repeat (first | exact Sub.nil _ | refine Sub.cons rfl ?_))) (by repeat (first | exact List.Sublist.refl _ | exact List.nil_sublist _ | refine List.Sublist.cons_cons _ ?_ | refine List.Sublist.cons _ ?_))
            · skip
              refine lst_off rfl rfl rfl ?_
              refine lst_off rfl rfl rfl ?_
              refine lst_off rfl rfl rfl ?_
              refine lst_off rfl rfl rfl ?_
              refine lst_off rfl rfl rfl ?_
              refine lst_off rfl rfl rfl ?_
              refine lst_pick_false rfl rfl rfl ?_
              refine lst_nil ?_
              exact ex_cut (.cons (by simp_all [look]) (by repeat (first | exact Sub.nil _ | refine Sub.cons rfl ?_))) (by repeat (first | exact List.Sublist.refl _ | exact List.nil_sublist _ | refine List.Sublist.cons_cons _ ?_ | refine List.Sublist.cons _ ?_))
          refine lst_nil ?_
          refine ex_then ?_
          refine cod_cond_bool rfl (fun hc5 => ?_) (fun hc5 => ?_)
          · skip
            rw [Bool.and_eq_true, decide_eq_true_eq] at hc5
            have hcan : i ∈ canTo ags used m ags.length := can_mem.2 ⟨hk', (hU i hk').2 hc5.1, by rw [hxd]; exact hc5.2⟩
            obtain ⟨n1, hn1⟩ : ∃ n, L[m]? = some n := ⟨_, List.getElem?_eq_getElem (by omega)⟩
            obtain ⟨n2, hn2⟩ : ∃ n, L[putN x m]? = some n := ⟨_, List.getElem?_eq_getElem (by omega)⟩
            have hd1 : L.getD m 0 = n1 := by rw [List.getD_eq_getElem?_getD, hn1]; rfl
            have hd2 : L.getD (putN x m) 0 = n2 := by rw [List.getD_eq_getElem?_getD, hn2]; rfl
            have hn2f : n2 ≤ farN := by rw [← hd2]; exact hI.le _ hg6
            have hI2 := hI.put hok hm6 hcan
            rw [hxd, hd1, hd2] at hI2
            unfold farN at hn2f
            refine any_begin [.r (some ⟨bL, 0, none⟩)] F.follows 19 rfl [false, false, false, false, false, false, false, false, false, false, false, false, false, false, false, false, false, false, false] rfl ?_
            refine any_take (listed' := [true, false, false, false, false, false, false, false, false, false, false, false, false, false, false, false, false, false, false].toArray) 0 rfl rfl rfl (by kernel_rfl) (by kernel_rfl) (by kernel_rfl) (by repeat (first | exact List.Sublist.refl _ | exact List.nil_sublist _ | refine List.Sublist.cons_cons _ ?_ | refine List.Sublist.cons _ ?_)) (yld_move rfl) rfl ?_
            refine any_take (listed' := [true, true, false, false, false, false, false, false, false, false, false, false, false, false, false, false, false, false, false].toArray) 1 rfl rfl rfl (by kernel_rfl) (by kernel_rfl) (by kernel_rfl) (by repeat (first | exact List.Sublist.refl _ | exact List.nil_sublist _ | refine List.Sublist.cons_cons _ ?_ | refine List.Sublist.cons _ ?_)) (yld_move rfl) rfl ?_
            refine any_take (listed' := [true, true, true, false, false, false, false, false, false, false, false, false, false, false, false, false, false, false, false].toArray) 2 rfl rfl rfl (by kernel_rfl) (by kernel_rfl) (by kernel_rfl) (by repeat (first | exact List.Sublist.refl _ | exact List.nil_sublist _ | refine List.Sublist.cons_cons _ ?_ | refine List.Sublist.cons _ ?_)) (yld_move rfl) rfl ?_
            refine any_take (listed' := [true, true, true, true, false, false, false, false, false, false, false, false, false, false, false, false, false, false, false].toArray) 3 rfl rfl rfl (by kernel_rfl) (by kernel_rfl) (by kernel_rfl) (by repeat (first | exact List.Sublist.refl _ | exact List.nil_sublist _ | refine List.Sublist.cons_cons _ ?_ | refine List.Sublist.cons _ ?_)) (yld_move rfl) rfl ?_
            refine any_take (listed' := [true, true, true, true, true, false, false, false, false, false, false, false, false, false, false, false, false, false, false].toArray) 4 rfl rfl rfl (by kernel_rfl) (by kernel_rfl) (by kernel_rfl) (by repeat (first | exact List.Sublist.refl _ | exact List.nil_sublist _ | refine List.Sublist.cons_cons _ ?_ | refine List.Sublist.cons _ ?_)) (yld_index (j := m) rfl rfl Tryd.underlying25 F.ti3 rfl hm6) rfl ?_
            refine any_take (listed' := [true, true, true, true, true, false, true, false, false, false, false, false, false, false, false, false, false, false, false].toArray) 6 rfl rfl rfl (by kernel_rfl) (by kernel_rfl) (by kernel_rfl) (by repeat (first | exact List.Sublist.refl _ | exact List.nil_sublist _ | refine List.Sublist.cons_cons _ ?_ | refine List.Sublist.cons _ ?_)) (yld_move rfl) rfl ?_
            refine any_take (listed' := [true, true, true, true, true, false, true, true, false, false, false, false, false, false, false, false, false, false, false].toArray) 7 rfl rfl rfl (by kernel_rfl) (by kernel_rfl) (by kernel_rfl) (by repeat (first | exact List.Sublist.refl _ | exact List.nil_sublist _ | refine List.Sublist.cons_cons _ ?_ | refine List.Sublist.cons _ ?_)) (yld_move rfl) rfl ?_
            refine any_take (listed' := [true, true, true, true, true, false, true, true, true, false, false, false, false, false, false, false, false, false, false].toArray) 8 rfl rfl rfl (by kernel_rfl) (by kernel_rfl) (by kernel_rfl) (by repeat (first | exact List.Sublist.refl _ | exact List.nil_sublist _ | refine List.Sublist.cons_cons _ ?_ | refine List.Sublist.cons _ ?_)) (yld_move rfl) rfl ?_
            refine any_take (listed' := [true, true, true, true, true, false, true, true, true, true, false, false, false, false, false, false, false, false, false].toArray) 9 rfl rfl rfl (by kernel_rfl) (by kernel_rfl) (by kernel_rfl) (by repeat (first | exact List.Sublist.refl _ | exact List.nil_sublist _ | refine List.Sublist.cons_cons _ ?_ | refine List.Sublist.cons _ ?_)) (yld_index (j := i) rfl rfl Tryd.underlying22 F.ti24 rfl hk') rfl ?_
            refine any_take (listed' := [true, true, true, true, true, false, true, true, true, true, true, false, false, false, false, false, false, false, false].toArray) 10 rfl rfl rfl (by kernel_rfl) (by kernel_rfl) (by kernel_rfl) (by repeat (first | exact List.Sublist.refl _ | exact List.nil_sublist _ | refine List.Sublist.cons_cons _ ?_ | refine List.Sublist.cons _ ?_)) (yld_loadN_at (l := [.int .i64 (x.needs : Int), .int .i64 (x.no : Int), .int .i64 (x.takes : Int), .int .i64 (x.leaves : Int), .int .i64 (x.cost : Int)]) rfl F.agg24 F.ti24 rfl (fun a w ha j u hu => ha.old (hcell i x hx j u hu) hb)) rfl ?_
            refine any_take (listed' := [true, true, true, true, true, false, true, true, true, true, true, true, false, false, false, false, false, false, false].toArray) 11 rfl rfl rfl (by kernel_rfl) (by kernel_rfl) (by kernel_rfl) (by repeat (first | exact List.Sublist.refl _ | exact List.nil_sublist _ | refine List.Sublist.cons_cons _ ?_ | refine List.Sublist.cons _ ?_)) (yld_move rfl) rfl ?_
            refine any_two (l1 := [true, true, true, true, true, true, true, true, true, true, true, true, false, false, false, false, false, false, false].toArray) (l2 := [true, true, true, true, true, false, true, true, true, true, true, true, true, false, false, false, false, false, false].toArray) 5 12 (by kernel_rfl) rfl rfl rfl rfl ?_ ?_
            · skip
              refine lst_load_at (v := .int .i64 (n1 : Int)) rfl rfl F.one3 (fun a w ha => row_cell ha (InR.mem (A := (some ⟨bL, 0, none⟩))) rfl (by rw [Nat.zero_add]; exact ints_get hn1)) ?_
              refine lst_nil ?_
              refine any_next (by repeat (first | exact List.Sublist.refl _ | exact List.nil_sublist _ | refine List.Sublist.cons_cons _ ?_ | refine List.Sublist.cons _ ?_)) ?_
              refine any_one (listed' := [true, true, true, true, true, true, true, true, true, true, true, true, true, false, false, false, false, false, false].toArray) 12 (by kernel_rfl) rfl rfl ?_
              refine lst_fn0 (vs := [_, _]) rfl rfl F.ent94 (fun a w ha => rafter_c x m hxo hm6 w) ?_
              refine lst_nil ?_
              refine any_next (by repeat (first | exact List.Sublist.refl _ | exact List.nil_sublist _ | refine List.Sublist.cons_cons _ ?_ | refine List.Sublist.cons _ ?_)) ?_
              refine any_take (listed' := [true, true, true, true, true, true, true, true, true, true, true, true, true, true, false, false, false, false, false].toArray) 13 rfl rfl rfl (by kernel_rfl) (by kernel_rfl) (by kernel_rfl) (by repeat (first | exact List.Sublist.refl _ | exact List.nil_sublist _ | refine List.Sublist.cons_cons _ ?_ | refine List.Sublist.cons _ ?_)) (yld_index (j := putN x m) rfl rfl Tryd.underlying25 F.ti3 rfl hg6) rfl ?_
              refine any_one (listed' := [true, true, true, true, true, true, true, true, true, true, true, true, true, true, true, false, false, false, false].toArray) 14 (by kernel_rfl) rfl rfl ?_
              refine lst_load_at (v := .int .i64 (n2 : Int)) rfl rfl F.one3 (fun a w ha => row_cell ha (InR.mem (A := (some ⟨bL, 0, none⟩))) rfl (by rw [Nat.zero_add]; exact ints_get hn2)) ?_
              refine lst_nil ?_
              refine any_next (by repeat (first | exact List.Sublist.refl _ | exact List.nil_sublist _ | refine List.Sublist.cons_cons _ ?_ | refine List.Sublist.cons _ ?_)) ?_
              refine any_take (listed' := [true, true, true, true, true, true, true, true, true, true, true, true, true, true, true, true, false, false, false].toArray) 15 rfl rfl rfl (by kernel_rfl) (by kernel_rfl) (by kernel_rfl) (by repeat (first | exact List.Sublist.refl _ | exact List.nil_sublist _ | refine List.Sublist.cons_cons _ ?_ | refine List.Sublist.cons _ ?_)) (yld_int (v := .int .i64 (1 + (n2 : Int))) rfl rfl (fun w => bin_add w (wrap_i64' _ (by omega) (by omega)))) rfl ?_
              refine any_one (listed' := [true, true, true, true, true, true, true, true, true, true, true, true, true, true, true, true, true, false, false].toArray) 16 (by kernel_rfl) rfl rfl ?_
              refine lst_min rfl rfl rfl ?_
              rw [show (if 1 + (n2 : Int) < ((n1 : Nat) : Int) then 1 + (n2 : Int) else ((n1 : Nat) : Int)) = ((min n1 (1 + n2) : Nat) : Int) from by rw [Nat.min_def]; split <;> split <;> omega]
              refine lst_nil ?_
              refine any_next (by repeat (first | exact List.Sublist.refl _ | exact List.nil_sublist _ | refine List.Sublist.cons_cons _ ?_ | refine List.Sublist.cons _ ?_)) ?_
              refine any_take (listed' := [true, true, true, true, true, true, true, true, true, true, true, true, true, true, true, true, true, true, false].toArray) 17 rfl rfl rfl (by kernel_rfl) (by kernel_rfl) (by kernel_rfl) (by repeat (first | exact List.Sublist.refl _ | exact List.nil_sublist _ | refine List.Sublist.cons_cons _ ?_ | refine List.Sublist.cons _ ?_)) (yld_index (j := m) rfl rfl Tryd.underlying25 F.ti3 rfl hm6) rfl ?_
              refine any_one (listed' := [true, true, true, true, true, true, true, true, true, true, true, true, true, true, true, true, true, true, true].toArray) 18 (by kernel_rfl) rfl rfl ?_
              refine lst_store_row (N := 64) (xs := ints (L)) (out := ints (L.set m (min n1 (1 + n2)))) rfl rfl F.ti3 rfl (by rw [Nat.zero_add, Nat.mul_one]; exact splice_ints (by omega)) (by repeat (first | exact Upd.head _ | apply Upd.tail)) ?_
              refine lst_nil ?_
              refine any_next (by repeat (first | exact List.Sublist.refl _ | exact List.nil_sublist _ | refine List.Sublist.cons_cons _ ?_ | refine List.Sublist.cons _ ?_)) ?_
              refine any_done rfl (by kernel_rfl) ?_
              refine ex_block_normal ?_
              refine ex_then ?_
              refine cod_region ?_
              refine lst_move rfl rfl ?_
              refine lst_int rfl rfl rfl (fun w => bin_add w (wrap_i64' _ (by omega) (by omega))) ?_
              refine lst_assign rfl rfl ?_
              refine lst_nil ?_
              refine ex_round (i + 1, L.set m (min n1 (1 + n2))) ⟨by omega, hI2⟩ (by (try dsimp only); omega) (by repeat (first | exact Sub.nil _ | refine Sub.cons rfl ?_)) (by repeat (first | exact List.Sublist.refl _ | exact List.nil_sublist _ | refine List.Sublist.cons_cons _ ?_ | refine List.Sublist.cons _ ?_))
            · skip
              refine lst_fn0 (vs := [_, _]) rfl rfl F.ent94 (fun a w ha => rafter_c x m hxo hm6 w) ?_
              refine lst_nil ?_
              refine any_next (by repeat (first | exact List.Sublist.refl _ | exact List.nil_sublist _ | refine List.Sublist.cons_cons _ ?_ | refine List.Sublist.cons _ ?_)) ?_
              refine any_take (listed' := [true, true, true, true, true, false, true, true, true, true, true, true, true, true, false, false, false, false, false].toArray) 13 rfl rfl rfl (by kernel_rfl) (by kernel_rfl) (by kernel_rfl) (by repeat (first | exact List.Sublist.refl _ | exact List.nil_sublist _ | refine List.Sublist.cons_cons _ ?_ | refine List.Sublist.cons _ ?_)) (yld_index (j := putN x m) rfl rfl Tryd.underlying25 F.ti3 rfl hg6) rfl ?_
              refine any_two (l1 := [true, true, true, true, true, true, true, true, true, true, true, true, true, true, false, false, false, false, false].toArray) (l2 := [true, true, true, true, true, false, true, true, true, true, true, true, true, true, true, false, false, false, false].toArray) 5 14 (by kernel_rfl) rfl rfl rfl rfl ?_ ?_
              · skip
                refine lst_load_at (v := .int .i64 (n1 : Int)) rfl rfl F.one3 (fun a w ha => row_cell ha (InR.mem (A := (some ⟨bL, 0, none⟩))) rfl (by rw [Nat.zero_add]; exact ints_get hn1)) ?_
                refine lst_nil ?_
                refine any_next (by repeat (first | exact List.Sublist.refl _ | exact List.nil_sublist _ | refine List.Sublist.cons_cons _ ?_ | refine List.Sublist.cons _ ?_)) ?_
                refine any_one (listed' := [true, true, true, true, true, true, true, true, true, true, true, true, true, true, true, false, false, false, false].toArray) 14 (by kernel_rfl) rfl rfl ?_
                refine lst_load_at (v := .int .i64 (n2 : Int)) rfl rfl F.one3 (fun a w ha => row_cell ha (InR.mem (A := (some ⟨bL, 0, none⟩))) rfl (by rw [Nat.zero_add]; exact ints_get hn2)) ?_
                refine lst_nil ?_
                refine any_next (by repeat (first | exact List.Sublist.refl _ | exact List.nil_sublist _ | refine List.Sublist.cons_cons _ ?_ | refine List.Sublist.cons _ ?_)) ?_
                refine any_take (listed' := [true, true, true, true, true, true, true, true, true, true, true, true, true, true, true, true, false, false, false].toArray) 15 rfl rfl rfl (by kernel_rfl) (by kernel_rfl) (by kernel_rfl) (by repeat (first | exact List.Sublist.refl _ | exact List.nil_sublist _ | refine List.Sublist.cons_cons _ ?_ | refine List.Sublist.cons _ ?_)) (yld_int (v := .int .i64 (1 + (n2 : Int))) rfl rfl (fun w => bin_add w (wrap_i64' _ (by omega) (by omega)))) rfl ?_
                refine any_one (listed' := [true, true, true, true, true, true, true, true, true, true, true, true, true, true, true, true, true, false, false].toArray) 16 (by kernel_rfl) rfl rfl ?_
                refine lst_min rfl rfl rfl ?_
                rw [show (if 1 + (n2 : Int) < ((n1 : Nat) : Int) then 1 + (n2 : Int) else ((n1 : Nat) : Int)) = ((min n1 (1 + n2) : Nat) : Int) from by rw [Nat.min_def]; split <;> split <;> omega]
                refine lst_nil ?_
                refine any_next (by repeat (first | exact List.Sublist.refl _ | exact List.nil_sublist _ | refine List.Sublist.cons_cons _ ?_ | refine List.Sublist.cons _ ?_)) ?_
                refine any_take (listed' := [true, true, true, true, true, true, true, true, true, true, true, true, true, true, true, true, true, true, false].toArray) 17 rfl rfl rfl (by kernel_rfl) (by kernel_rfl) (by kernel_rfl) (by repeat (first | exact List.Sublist.refl _ | exact List.nil_sublist _ | refine List.Sublist.cons_cons _ ?_ | refine List.Sublist.cons _ ?_)) (yld_index (j := m) rfl rfl Tryd.underlying25 F.ti3 rfl hm6) rfl ?_
                refine any_one (listed' := [true, true, true, true, true, true, true, true, true, true, true, true, true, true, true, true, true, true, true].toArray) 18 (by kernel_rfl) rfl rfl ?_
                refine lst_store_row (N := 64) (xs := ints (L)) (out := ints (L.set m (min n1 (1 + n2)))) rfl rfl F.ti3 rfl (by rw [Nat.zero_add, Nat.mul_one]; exact splice_ints (by omega)) (by repeat (first | exact Upd.head _ | apply Upd.tail)) ?_
                refine lst_nil ?_
                refine any_next (by repeat (first | exact List.Sublist.refl _ | exact List.nil_sublist _ | refine List.Sublist.cons_cons _ ?_ | refine List.Sublist.cons _ ?_)) ?_
                refine any_done rfl (by kernel_rfl) ?_
                refine ex_block_normal ?_
                refine ex_then ?_
                refine cod_region ?_
                refine lst_move rfl rfl ?_
                refine lst_int rfl rfl rfl (fun w => bin_add w (wrap_i64' _ (by omega) (by omega))) ?_
                refine lst_assign rfl rfl ?_
                refine lst_nil ?_
                refine ex_round (i + 1, L.set m (min n1 (1 + n2))) ⟨by omega, hI2⟩ (by (try dsimp only); omega) (by repeat (first | exact Sub.nil _ | refine Sub.cons rfl ?_)) (by repeat (first | exact List.Sublist.refl _ | exact List.nil_sublist _ | refine List.Sublist.cons_cons _ ?_ | refine List.Sublist.cons _ ?_))
              · skip
                refine lst_load_at (v := .int .i64 (n2 : Int)) rfl rfl F.one3 (fun a w ha => row_cell ha (InR.mem (A := (some ⟨bL, 0, none⟩))) rfl (by rw [Nat.zero_add]; exact ints_get hn2)) ?_
                refine lst_nil ?_
                refine any_next (by repeat (first | exact List.Sublist.refl _ | exact List.nil_sublist _ | refine List.Sublist.cons_cons _ ?_ | refine List.Sublist.cons _ ?_)) ?_
                refine any_take (listed' := [true, true, true, true, true, false, true, true, true, true, true, true, true, true, true, true, false, false, false].toArray) 15 rfl rfl rfl (by kernel_rfl) (by kernel_rfl) (by kernel_rfl) (by repeat (first | exact List.Sublist.refl _ | exact List.nil_sublist _ | refine List.Sublist.cons_cons _ ?_ | refine List.Sublist.cons _ ?_)) (yld_int (v := .int .i64 (1 + (n2 : Int))) rfl rfl (fun w => bin_add w (wrap_i64' _ (by omega) (by omega)))) rfl ?_
                refine any_one (listed' := [true, true, true, true, true, true, true, true, true, true, true, true, true, true, true, true, false, false, false].toArray) 5 (by kernel_rfl) rfl rfl ?_
                refine lst_load_at (v := .int .i64 (n1 : Int)) rfl rfl F.one3 (fun a w ha => row_cell ha (InR.mem (A := (some ⟨bL, 0, none⟩))) rfl (by rw [Nat.zero_add]; exact ints_get hn1)) ?_
                refine lst_nil ?_
                refine any_next (by repeat (first | exact List.Sublist.refl _ | exact List.nil_sublist _ | refine List.Sublist.cons_cons _ ?_ | refine List.Sublist.cons _ ?_)) ?_
                refine any_one (listed' := [true, true, true, true, true, true, true, true, true, true, true, true, true, true, true, true, true, false, false].toArray) 16 (by kernel_rfl) rfl rfl ?_
                refine lst_min rfl rfl rfl ?_
                rw [show (if 1 + (n2 : Int) < ((n1 : Nat) : Int) then 1 + (n2 : Int) else ((n1 : Nat) : Int)) = ((min n1 (1 + n2) : Nat) : Int) from by rw [Nat.min_def]; split <;> split <;> omega]
                refine lst_nil ?_
                refine any_next (by repeat (first | exact List.Sublist.refl _ | exact List.nil_sublist _ | refine List.Sublist.cons_cons _ ?_ | refine List.Sublist.cons _ ?_)) ?_
                refine any_take (listed' := [true, true, true, true, true, true, true, true, true, true, true, true, true, true, true, true, true, true, false].toArray) 17 rfl rfl rfl (by kernel_rfl) (by kernel_rfl) (by kernel_rfl) (by repeat (first | exact List.Sublist.refl _ | exact List.nil_sublist _ | refine List.Sublist.cons_cons _ ?_ | refine List.Sublist.cons _ ?_)) (yld_index (j := m) rfl rfl Tryd.underlying25 F.ti3 rfl hm6) rfl ?_
                refine any_one (listed' := [true, true, true, true, true, true, true, true, true, true, true, true, true, true, true, true, true, true, true].toArray) 18 (by kernel_rfl) rfl rfl ?_
                refine lst_store_row (N := 64) (xs := ints (L)) (out := ints (L.set m (min n1 (1 + n2)))) rfl rfl F.ti3 rfl (by rw [Nat.zero_add, Nat.mul_one]; exact splice_ints (by omega)) (by repeat (first | exact Upd.head _ | apply Upd.tail)) ?_
                refine lst_nil ?_
                refine any_next (by repeat (first | exact List.Sublist.refl _ | exact List.nil_sublist _ | refine List.Sublist.cons_cons _ ?_ | refine List.Sublist.cons _ ?_)) ?_
                refine any_done rfl (by kernel_rfl) ?_
                refine ex_block_normal ?_
                refine ex_then ?_
                refine cod_region ?_
                refine lst_move rfl rfl ?_
                refine lst_int rfl rfl rfl (fun w => bin_add w (wrap_i64' _ (by omega) (by omega))) ?_
                refine lst_assign rfl rfl ?_
                refine lst_nil ?_
                refine ex_round (i + 1, L.set m (min n1 (1 + n2))) ⟨by omega, hI2⟩ (by (try dsimp only); omega) (by repeat (first | exact Sub.nil _ | refine Sub.cons rfl ?_)) (by repeat (first | exact List.Sublist.refl _ | exact List.nil_sublist _ | refine List.Sublist.cons_cons _ ?_ | refine List.Sublist.cons _ ?_))
          · skip
            have hno : i ∉ canTo ags used m ags.length := fun h => by
              have h' := can_mem.1 h
              have h1 := (hU i hk').1 h'.2.1
              have h2 := h'.2.2
              rw [hxd] at h2
              rw [decide_eq_true h1, h2] at hc5
              cases hc5
            have hI2 := hI.skip hno
            refine cod_skip ?_
            refine ex_block_normal ?_
            refine ex_then ?_
            refine cod_region ?_
            refine lst_move rfl rfl ?_
            refine lst_int rfl rfl rfl (fun w => bin_add w (wrap_i64' _ (by omega) (by omega))) ?_
            refine lst_assign rfl rfl ?_
            refine lst_nil ?_
            refine ex_round (i + 1, L) ⟨by omega, hI2⟩ (by (try dsimp only); omega) (by repeat (first | exact Sub.nil _ | refine Sub.cons rfl ?_)) (by repeat (first | exact List.Sublist.refl _ | exact List.nil_sublist _ | refine List.Sublist.cons_cons _ ?_ | refine List.Sublist.cons _ ?_))
        · skip
          obtain rfl : i = ags.length := by omega
          have hI2 := hI.next hm6
          refine cod_exit ?_
          refine ex_then_exit ?_
          refine ex_then_exit ?_
          refine ex_block_exit ?_
          refine ex_block_normal ?_
          refine ex_then ?_
          refine cod_region ?_
          refine lst_move rfl rfl ?_
          refine lst_int rfl rfl rfl (fun w => bin_add w (wrap_i64' _ (by omega) (by omega))) ?_
          refine lst_assign rfl rfl ?_
          refine lst_nil ?_
          refine ex_round (m + 1, L) ⟨by omega, hI2⟩ (by (try dsimp only); omega) (by repeat (first | exact Sub.nil _ | refine Sub.cons rfl ?_)) (by repeat (first | exact List.Sublist.refl _ | exact List.nil_sublist _ | refine List.Sublist.cons_cons _ ?_ | refine List.Sublist.cons _ ?_))
      · skip
        obtain rfl : m = 64 := by omega
        have hI2 := hI.round
        refine cod_exit ?_
        refine ex_then_exit ?_
        refine ex_then_exit ?_
        refine ex_block_exit ?_
        refine ex_block_normal ?_
        refine ex_then ?_
        refine cod_region ?_
        refine lst_move rfl rfl ?_
        refine lst_int rfl rfl rfl (fun w => bin_add w (wrap_i64' _ (by omega) (by omega))) ?_
        refine lst_assign rfl rfl ?_
        refine lst_nil ?_
        refine ex_round (r + 1, L) ⟨by omega, hI2⟩ (by (try dsimp only); omega) (by repeat (first | exact Sub.nil _ | refine Sub.cons rfl ?_)) (by repeat (first | exact List.Sublist.refl _ | exact List.nil_sublist _ | refine List.Sublist.cons_cons _ ?_ | refine List.Sublist.cons _ ?_))
    · skip
      obtain rfl : r = 64 := by omega
      have hlen := hI.len
      refine cod_exit ?_
      refine ex_then_exit ?_
      refine ex_then_exit ?_
      refine ex_block_exit ?_
      refine ex_then ?_
      refine cod_seq ?_
      refine cod_seq ?_
      refine cod_region ?_
      refine lst_assign rfl rfl ?_
      refine lst_nil ?_
      refine ex_then ?_
      refine cod_block ?_
      refine cod_loop (G := Nat) (fun k => k ≤ 64) (fun k => 64 - k) (fun k => [(0, .slice A ags.length c), (1, .int .i64 (p : Int)), (2, .int .i64 sh), (7, .slice (some ⟨bL, 0, none⟩) 64 64), (12, .int .i64 (k : Int))]) (fun k => [.row 3 1 (some ⟨bL, 0, none⟩) 64 64 (ints (L))]) 0 (Nat.zero_le _) (by repeat (first | exact Sub.nil _ | refine Sub.cons rfl ?_)) (by repeat (first | exact List.Sublist.refl _ | exact List.nil_sublist _ | refine List.Sublist.cons_cons _ ?_ | refine List.Sublist.cons _ ?_)) ?_
      intro k hk
      (try dsimp only at hk ⊢)
      refine cod_seq ?_
      refine cod_seq ?_
      refine cod_region ?_
      refine lst_move rfl rfl ?_
      refine lst_int rfl rfl rfl bin_leq ?_
      refine lst_nil ?_
      refine ex_then ?_
      refine cod_cond_dec rfl (fun hc6 => ?_) (fun hc6 => ?_)
      · skip
        have hk6 : k < 64 := by omega
        obtain ⟨n1, hn1⟩ : ∃ n, L[k]? = some n := ⟨_, List.getElem?_eq_getElem (by omega)⟩
        have hd1 : L.getD k 0 = n1 := by rw [List.getD_eq_getElem?_getD, hn1]; rfl
        have hsame := hI.same hk6
        rw [hd1] at hsame
        refine cod_skip ?_
        refine ex_then ?_
        refine cod_seq ?_
        refine cod_block ?_
        refine cod_region ?_
        refine lst_move rfl rfl ?_
        refine lst_move rfl rfl ?_
        refine lst_move rfl rfl ?_
        refine lst_move rfl rfl ?_
        refine lst_index (j := k) rfl rfl rfl Tryd.underlying25 F.ti3 rfl hk6 ?_
        refine lst_load_at (v := .int .i64 (n1 : Int)) rfl rfl F.one3 (fun a w ha => row_cell ha (InR.mem (A := (some ⟨bL, 0, none⟩))) rfl (by rw [Nat.zero_add]; exact ints_get hn1)) ?_
        refine lst_min rfl rfl rfl ?_
        rw [show (if (1048576 : Int) < ((n1 : Nat) : Int) then (1048576 : Int) else ((n1 : Nat) : Int)) = ((min n1 farN : Nat) : Int) from by rw [Nat.min_def]; unfold farN; split <;> split <;> omega]
        refine lst_index (j := k) rfl rfl rfl Tryd.underlying25 F.ti3 rfl hk6 ?_
        refine lst_store_row (N := 64) (xs := ints (L)) (out := ints (L.set k (min n1 farN))) rfl rfl F.ti3 rfl (by rw [Nat.zero_add, Nat.mul_one]; exact splice_ints (by omega)) (by repeat (first | exact Upd.head _ | apply Upd.tail)) ?_
        rw [hsame]
        refine lst_nil ?_
        refine ex_block_normal ?_
        refine ex_then ?_
        refine cod_region ?_
        refine lst_move rfl rfl ?_
        refine lst_int rfl rfl rfl (fun w => bin_add w (wrap_i64' _ (by omega) (by omega))) ?_
        refine lst_assign rfl rfl ?_
        refine lst_nil ?_
        refine ex_round (k + 1) (by omega) (by (try dsimp only); omega) (by repeat (first | exact Sub.nil _ | refine Sub.cons rfl ?_)) (by repeat (first | exact List.Sublist.refl _ | exact List.nil_sublist _ | refine List.Sublist.cons_cons _ ?_ | refine List.Sublist.cons _ ?_))
      · skip
        refine cod_exit ?_
        refine ex_then_exit ?_
        refine ex_then_exit ?_
        refine ex_block_exit ?_
        refine ex_then ?_
        refine cod_seq ?_
        refine cod_region ?_
        refine lst_move rfl rfl ?_
        refine lst_assign rfl rfl ?_
        refine lst_nil ?_
        refine ex_then ?_
        refine cod_ret ?_
        exact ex_ret rfl (fun a w ha => res_one rfl rfl ha) (fun a w ha => ⟨L, bL, hI.dst hok, rfl, ha.grown (by repeat (first | exact List.Sublist.refl _ | exact List.nil_sublist _ | refine List.Sublist.cons_cons _ ?_ | refine List.Sublist.cons _ ?_))⟩)

end Go.Proofs.YtofkhehcnfiopaaDoor.N
namespace Go.Proofs.YtofkhehcnfiopaaDoor.N
open Go Go.RowKit Go.Proofs
theorem F.ent103 : Enters Tryd.prog 103 := enters_of Tryd.func103 rfl (by kernel_rfl)
theorem rHopeless_bad (A : Option Addr) (c : Nat) (l : List RA) (p : Int) (hn : askedR l 0 p ≠ 0) (w : World) (hA : RdL RA.cells 5 w A l) : Calls Tryd.prog 65 #[.slice A l.length c, .int .i64 p] w fun e w' => e = .returned (.tuple #[.slice none 0 0, .int .i64 ((askedR l 0 p : Nat) : Int)]) ∧ Grew w w' [] := by
  refine enter (N := 33) [(0, .slice A l.length c), (1, .int .i64 p)] Tryd.func65 rfl Tryd.ntmps65 rfl rfl ?_
  refine cod_seq ?_
  refine cod_region ?_
  refine lst_assign rfl rfl ?_
  refine lst_assign rfl rfl ?_
  refine lst_nil ?_
  refine ex_then ?_
  refine cod_seq ?_
  refine cod_seq ?_
  refine cod_region ?_
  refine lst_move rfl rfl ?_
  refine lst_move rfl rfl ?_
  refine lst_fn0 (vs := [_, _, _]) rfl rfl F.ent86 (fun a w ha => asked_c A c l 0 p w (hA.later ha.below)) ?_
  refine lst_assign rfl rfl ?_
  refine lst_nil ?_
  refine ex_then ?_
  refine cod_seq ?_
  refine cod_region ?_
  refine lst_move rfl rfl ?_
  refine lst_int rfl rfl rfl bin_neq ?_
  refine lst_nil ?_
  refine ex_then ?_
  refine cod_cond_dec rfl (fun hc0 => ?_) (fun hc0 => ?_)
  · skip
    refine cod_seq ?_
    refine cod_region ?_
    refine lst_move rfl rfl ?_
    refine lst_assign rfl rfl ?_
    refine lst_assign rfl rfl ?_
    refine lst_nil ?_
    refine ex_then ?_
    refine cod_ret ?_
    refine ex_then_ret ?_
    exact ex_ret rfl (fun a w ha => res_two rfl rfl rfl ha) (fun a w ha => ⟨rfl, ha.grown (List.nil_sublist _)⟩)
  · skip
    exact absurd hn (by omega) -- done

theorem rHopeless_ok (A : Option Addr) (c : Nat) (ags : List Ag) (hok : Oks ags) (p : Nat) (hp : p < 64) (w : World) (hA : RdL Ag.cells 5 w A ags) : Calls Tryd.prog 65 #[.slice A ags.length c, .int .i64 (p : Int)] w fun e w' => ∃ A' c', e = .returned (.tuple #[.slice A' (hopeL ags p).length c', .int .i64 0]) ∧ Grew w w' [.row 3 1 A' (hopeL ags p).length c' (ints (hopeL ags p))] := by
  refine enter (N := 33) [(0, .slice A ags.length c), (1, .int .i64 (p : Int))] Tryd.func65 rfl Tryd.ntmps65 rfl rfl ?_
  refine cod_seq ?_
  refine cod_region ?_
  refine lst_assign rfl rfl ?_
  refine lst_assign rfl rfl ?_
  refine lst_nil ?_
  refine ex_then ?_
  refine cod_seq ?_
  refine cod_seq ?_
  refine cod_region ?_
  refine lst_move rfl rfl ?_
  refine lst_move rfl rfl ?_
  refine lst_fn0 (v := .int .i64 0) (vs := [_, _, _]) rfl rfl F.ent86 (fun a w ha => by
    have h := asked_c A c (ags.map Ag.raw) 0 (p : Int) w (hA.raw.later ha.below)
    rw [List.length_map, show askedR (ags.map Ag.raw) 0 (p : Int) = 0 from askedR_ok (m := 0) hok (by omega) (by omega)] at h
    exact h) ?_
  refine lst_assign rfl rfl ?_
  refine lst_nil ?_
  refine ex_then ?_
  refine cod_seq ?_
  refine cod_region ?_
  refine lst_move rfl rfl ?_
  refine lst_int rfl rfl rfl bin_neq ?_
  refine lst_nil ?_
  refine ex_then ?_
  refine cod_cond_false rfl ?_
  refine cod_skip ?_
  refine ex_then ?_
  refine cod_seq ?_
  refine cod_region ?_
  refine lst_assign rfl rfl ?_
  refine lst_nil ?_
  refine ex_then ?_
  refine cod_seq ?_
  refine cod_region ?_
  refine lst_move rfl rfl ?_
  refine lst_move rfl rfl ?_
  refine lst_fn (X := List Nat × Nat) (vs := [_, _, _]) (p := fun y => Dst ags (usedAll ags.length) p y.1) (val := fun y => .slice (some ⟨y.2, 0, none⟩) 64 64) (rs := fun y => [.row 3 1 (some ⟨y.2, 0, none⟩) 64 64 (ints y.1)]) rfl rfl F.ent103 (fun a w ha => (rPuts_c A c ags hok p hp (usedAll ags.length) (-1) (fun i hi => by rw [usedAll_bit]; simp [hi]) w (hA.later ha.below)).mono (fun e w' h => by obtain ⟨L, b, h1, h2, h3⟩ := h; exact ⟨(L, b), h1, h2, h3⟩)) ?_
  rintro ⟨L0, bP0⟩ hD0
  dsimp only [List.cons_append, List.nil_append] at hD0 ⊢
  have hll0 := hD0.len
  refine lst_assign rfl rfl ?_
  refine lst_nil ?_
  refine ex_then ?_
  refine cod_seq ?_
  refine cod_seq ?_
  refine cod_region ?_
  refine lst_assign rfl rfl ?_
  refine lst_nil ?_
  refine ex_then ?_
  refine cod_block ?_
  refine cod_nil 3 1 ?_
  refine cod_loop (G := Nat × Option Addr × Nat) (fun g => g.1 ≤ 64) (fun g => 64 - g.1) (fun g => [(7, .slice g.2.1 (fltP (fun f => ¬ Clr ags (usedAll ags.length) p f) (List.range g.1)).length g.2.2), (8, .slice (some ⟨bP0, 0, none⟩) 64 64), (9, .int .i64 (g.1 : Int))]) (fun g => [.row 3 1 g.2.1 (fltP (fun f => ¬ Clr ags (usedAll ags.length) p f) (List.range g.1)).length g.2.2 (ints (fltP (fun f => ¬ Clr ags (usedAll ags.length) p f) (List.range g.1))), .row 3 1 (some ⟨bP0, 0, none⟩) 64 64 (ints L0)]) (0, none, 0) (Nat.zero_le _) (by repeat (first | exact Sub.nil _ | refine Sub.cons rfl ?_)) (by repeat (first | exact List.Sublist.refl _ | exact List.nil_sublist _ | refine List.Sublist.cons_cons _ ?_ | refine List.Sublist.cons _ ?_)) ?_
  rintro ⟨k, A1, c1⟩ hk
  (try dsimp only at hk ⊢)
  refine cod_seq ?_
  refine cod_seq ?_
  refine cod_region ?_
  refine lst_move rfl rfl ?_
  refine lst_int rfl rfl rfl bin_leq ?_
  refine lst_nil ?_
  refine ex_then ?_
  refine cod_cond_dec rfl (fun hc1 => ?_) (fun hc1 => ?_)
  · skip
    have hk6 : k < 64 := by omega
    have hsl : (fltP (fun f => ¬ Clr ags (usedAll ags.length) p f) (List.range k)).length ≤ 64 := Nat.le_trans (fltP_len _ _) (by rw [List.length_range]; omega)
    obtain ⟨n3, hn3⟩ : ∃ n, L0[k]? = some n := ⟨_, List.getElem?_eq_getElem (by omega)⟩
    have hd3 : L0.getD k 0 = n3 := by rw [List.getD_eq_getElem?_getD, hn3]; rfl
    have hfar3 := hD0.far k hk6
    rw [hd3] at hfar3
    unfold farN at hfar3
    refine cod_skip ?_
    refine ex_then ?_
    refine cod_seq ?_
    refine cod_block ?_
    refine cod_seq ?_
    refine cod_region ?_
    refine lst_move rfl rfl ?_
    refine lst_move rfl rfl ?_
    refine lst_index (j := k) rfl rfl rfl Tryd.underlying25 F.ti3 rfl hk6 ?_
    refine lst_load_at (v := .int .i64 (n3 : Int)) rfl rfl F.one3 (fun a w ha => row_cell ha (InR.mem (A := (some ⟨bP0, 0, none⟩))) rfl (by rw [Nat.zero_add]; exact ints_get hn3)) ?_
    refine lst_int rfl rfl rfl bin_eql ?_
    refine lst_nil ?_
    refine ex_then ?_
    refine cod_cond_dec rfl (fun hc2 => ?_) (fun hc2 => ?_)
    · skip
      refine cod_region ?_
      refine lst_move rfl rfl ?_
      refine lst_move rfl rfl ?_
      refine lst_lit (vs := [(0, _)]) rfl rfl Tryd.underlying25 F.ti3 rfl rfl rfl ?_
      intro b30
      refine lst_append rfl rfl rfl Tryd.underlying25 F.ti3 rfl rfl rfl (by unfold maxLen; omega) (by omega) ?_
      intro A2 c2
      refine lst_assign rfl rfl ?_
      refine lst_nil ?_
      refine ex_block_normal ?_
      refine ex_then ?_
      refine cod_region ?_
      refine lst_move rfl rfl ?_
      refine lst_int rfl rfl rfl (fun w => bin_add w (wrap_i64' _ (by omega) (by omega))) ?_
      refine lst_assign rfl rfl ?_
      refine lst_nil ?_
      have e : (fltP (fun f => ¬ Clr ags (usedAll ags.length) p f) (List.range (k + 1))) = (fltP (fun f => ¬ Clr ags (usedAll ags.length) p f) (List.range k)) ++ [k] := by rw [List.range_succ]; exact fltP_yes (hfar3.1 (by omega))
      refine ex_round (k + 1, A2, c2) (by (try dsimp only); omega) (by (try dsimp only); omega) (by (try dsimp only); (try rw [e]); simp only [List.length_append, List.length_singleton]; repeat (first | exact Sub.nil _ | refine Sub.cons rfl ?_)) (by (try dsimp only); (try rw [e]); simp only [ints_snoc, List.length_append, List.length_singleton]; repeat (first | exact List.Sublist.refl _ | exact List.nil_sublist _ | refine List.Sublist.cons_cons _ ?_ | refine List.Sublist.cons _ ?_))
    · skip
      refine cod_skip ?_
      refine ex_block_normal ?_
      refine ex_then ?_
      refine cod_region ?_
      refine lst_move rfl rfl ?_
      refine lst_int rfl rfl rfl (fun w => bin_add w (wrap_i64' _ (by omega) (by omega))) ?_
      refine lst_assign rfl rfl ?_
      refine lst_nil ?_
      have e : (fltP (fun f => ¬ Clr ags (usedAll ags.length) p f) (List.range (k + 1))) = (fltP (fun f => ¬ Clr ags (usedAll ags.length) p f) (List.range k)) := by rw [List.range_succ]; exact fltP_no (fun h => hc2 (by have := hfar3.2 h; omega))
      refine ex_round (k + 1, A1, c1) (by (try dsimp only); omega) (by (try dsimp only); omega) (by (try dsimp only); (try rw [e]); repeat (first | exact Sub.nil _ | refine Sub.cons rfl ?_)) (by (try dsimp only); (try rw [e]); repeat (first | exact List.Sublist.refl _ | exact List.nil_sublist _ | refine List.Sublist.cons_cons _ ?_ | refine List.Sublist.cons _ ?_))
  · skip
    refine cod_exit ?_
    refine ex_then_exit ?_
    refine ex_then_exit ?_
    refine ex_block_exit ?_
    refine ex_then ?_
    refine cod_seq ?_
    refine cod_region ?_
    refine lst_move rfl rfl ?_
    refine lst_assign rfl rfl ?_
    refine lst_assign rfl rfl ?_
    refine lst_nil ?_
    refine ex_then ?_
    refine cod_ret ?_
    obtain rfl : k = 64 := by omega
    exact ex_ret rfl (fun a w ha => res_two rfl rfl rfl ha) (fun a w ha => ⟨A1, c1, rfl, ha.grown (by repeat (first | exact List.Sublist.refl _ | exact List.nil_sublist _ | refine List.Sublist.cons_cons _ ?_ | refine List.Sublist.cons _ ?_))⟩)

end Go.Proofs.YtofkhehcnfiopaaDoor.N
namespace Go.Proofs.YtofkhehcnfiopaaDoor.N
open Go Go.RowKit Go.Proofs
theorem three_ex {l m n : Int} {k : Nat} (hk : k < 3) : ∃ x, ([.int .i64 l, .int .i64 m, .int .i64 n] : List Value)[k]? = some (.int .i64 x) := by
  rcases (show k = 0 ∨ k = 1 ∨ k = 2 by omega) with rfl | rfl | rfl
  · exact ⟨l, rfl⟩
  · exact ⟨m, rfl⟩
  · exact ⟨n, rfl⟩
end Go.Proofs.YtofkhehcnfiopaaDoor.N
namespace Go.Proofs.YtofkhehcnfiopaaDoor.N
open Go Go.RowKit Go.Proofs
/-! The first list, the shorter ones first, that does something. -/
def FS (n : Nat) (P : List Nat → Prop) (K : Nat) : Option (List Nat) → Prop
  | some v => P v ∧ Wd n v ∧ v.length ≤ K ∧ ∀ u, Wd n u → u.length ≤ K → P u → code n v ≤ code n u
  | none => ∀ u, Wd n u → u.length ≤ K → ¬ P u
theorem FS.unique {n K : Nat} {P : List Nat → Prop} {r s : Option (List Nat)} (h : FS n P K r) (h' : FS n P K s) : r = s := by
  cases r with
  | none =>
    cases s with
    | none => rfl
    | some v => exact absurd h'.1 (h v h'.2.1 h'.2.2.1)
  | some v =>
    cases s with
    | none => exact absurd h.1 (h' v h.2.1 h.2.2.1)
    | some w =>
      have h1 := h.2.2.2 w h'.2.1 h'.2.2.1 h'.1
      have h2 := h'.2.2.2 v h.2.1 h.2.2.1 h.1
      exact congrArg some (code_inj n _ v w rfl h.2.1 h'.2.1 (by omega))
/-- What a walk through all lists has seen. -/
structure SeenS (n : Nat) (P : List Nat → Prop) (k i : Nat) : Prop where
  less : ∀ u, Wd n u → u.length < k → ¬ P u
  now : ∀ j u, j < i → (strs n k)[j]? = some u → ¬ P u
theorem SeenS.start {n : Nat} {P : List Nat → Prop} : SeenS n P 0 0 := ⟨fun _ _ h => absurd h (Nat.not_lt_zero _), fun _ _ h => absurd h (Nat.not_lt_zero _)⟩
theorem SeenS.next {n k i : Nat} {P : List Nat → Prop} (h : SeenS n P k i) {v : List Nat} (hv : (strs n k)[i]? = some v) (hp : ¬ P v) : SeenS n P k (i + 1) :=
  ⟨h.less, fun j u hj hu => by
    rcases Nat.lt_succ_iff_lt_or_eq.1 hj with h1 | rfl
    · exact h.now j u h1 hu
    · rw [hv] at hu
      cases hu
      exact hp⟩
theorem SeenS.round {n k i : Nat} {P : List Nat → Prop} (h : SeenS n P k i) (hi : (strs n k).length ≤ i) : SeenS n P (k + 1) 0 :=
  ⟨fun u hu hl => by
    rcases Nat.lt_succ_iff_lt_or_eq.1 hl with h1 | h1
    · exact h.less u hu h1
    · obtain ⟨j, hj⟩ := List.getElem?_of_mem (strs_all hu h1)
      exact h.now j u (Nat.lt_of_lt_of_le (List.getElem?_eq_some_iff.1 hj).1 hi) hj, fun _ _ h => absurd h (Nat.not_lt_zero _)⟩
theorem SeenS.none_ {n K : Nat} {P : List Nat → Prop} (h : SeenS n P (K + 1) 0) : FS n P K none := fun u hu hl => h.less u hu (by omega)
theorem SeenS.found {n k i K : Nat} {P : List Nat → Prop} (h : SeenS n P k i) (hk : k ≤ K) {v : List Nat} (hv : (strs n k)[i]? = some v) (hp : P v) : FS n P K (some v) := by
  obtain ⟨hvl, hvw⟩ := strs_mem (List.mem_of_getElem? hv)
  refine ⟨hp, hvw, by omega, fun u hu _ hpu => ?_⟩
  rcases Nat.lt_trichotomy u.length k with hl | hl | hl
  · exact absurd hpu (h.less u hu hl)
  · obtain ⟨j, hj⟩ := List.getElem?_of_mem (strs_all hu hl)
    rcases Nat.lt_or_ge j i with h2 | h2
    · exact absurd hpu (h.now j u h2 hj)
    · exact strs_le_code hv hj h2
  · exact Nat.le_of_lt (code_lt_of_len n u.length u v rfl (by omega) hvw)
/-! Teams. -/
end Go.Proofs.YtofkhehcnfiopaaDoor.N
namespace Go.Proofs.YtofkhehcnfiopaaDoor.N
open Go Go.RowKit Go.Proofs
theorem Upd.same {r r' : Res} {l l' : List Res} (h : Upd r r' l l') (e : r' = r) : l' = l := by
  induction h with
  | head l => rw [e]
  | tail x _ ih => rw [ih]
theorem ncell_one : ∀ x, ∀ u ∈ ncell x, u.oneCell' = true := fun x u hu => by
  simp [ncell] at hu
  subst hu
  rfl
section
variable {C : Ctx} {fr : List (Nat × Value)} {hp : List Res} {ops : Array Oper} {Q : Exit → Act → World → Prop} {rest : List Oper} {d : Nat} {ty : TypeId} {pos : String} {after : Array Edge}
/-- A slice that may be nil, appended. -/
theorem lst_append_opt {α : Type} {cells : α → List Value} {x y : Operand} {t e : TypeId} {A B : Option Addr} {n c m cb size bytes : Nat} {xs : List Value} {l : List α} {z : Value} {hp' : Option Addr → Nat → List Res} (hd : Nat.blt d C.N = true)
    (hx : ev fr x = some (.slice A n c)) (hy : ev fr y = some (.slice B m cb)) (ht : C.P.underlying t = some (.slice e)) (hi : TI C.P e z size bytes) (hzs : z.cells.size = size) (hs0 : Nat.blt 0 size = true) (hs : ∀ x, (cells x).length = size) (ho1 : ∀ x, ∀ u ∈ cells x, u.oneCell' = true)
    (hB : B = none → m = 0 ∧ cb = 0) (hnews : ∀ a w, At C fr hp a w → RdL cells size w B l) (hl : l.length = m) [hr : InR A e size n c xs hp] [hu : ∀ A' c', UpR A e size n c xs (.row e size A' (n + m) c' (xs ++ l.flatMap cells)) hp (hp' A' c')]
    (h63 : n + m ≤ maxLen) (hbytes : (n + m) * bytes ≤ 140737488355328)
    (k : ∀ A' c', Lst C ops Q rest ((d, .slice A' (n + m) c') :: fr) (hp' A' c')) :
    Lst C ops Q (⟨some d, .call { callee := .builtin .append, args := #[x, y], argTypes := #[t, t] }, ty, pos, after, none⟩ :: rest) fr hp := by
  cases B with
  | some p => exact lst_append_cells hd hx hy ht hi hzs hs0 hs ho1 hnews hl h63 hbytes k
  | none =>
    obtain ⟨rfl, rfl⟩ := hB rfl
    obtain rfl : l = [] := List.eq_nil_of_length_eq_zero hl
    refine lst_append_row_nil (n' := n) (c' := c) hd hx hy ht hi rfl rfl ?_
    have hk := k A c
    rw [(hu A c).upd.same (by rw [List.flatMap_nil, List.append_nil, Nat.add_zero])] at hk
    exact hk
end
/-! Lists with the first agent ahead: the same lists. -/
end Go.Proofs.YtofkhehcnfiopaaDoor.N
namespace Go.Proofs.YtofkhehcnfiopaaDoor.N
open Go Go.RowKit Go.Proofs
/-! The melt that takes longest. -/
def bestL (L : List Nat) : Nat → Nat × Nat
  | 0 => (0, 0)
  | k + 1 => if L.getD k 0 < farN ∧ (bestL L k).2 < L.getD k 0 then (k, L.getD k 0) else bestL L k
theorem Dst.unique {ags : List Ag} {used p : Nat} {L M : List Nat} (h : Dst ags used p L) (h' : Dst ags used p M) : L = M := by
  apply List.ext_getElem?
  intro f
  by_cases hf : f < 64
  · have e : L.getD f 0 = M.getD f 0 := by
      by_cases hL : L.getD f 0 = farN
      · rw [hL, (h'.far f hf).2 ((h.far f hf).1 hL)]
      · have hM : M.getD f 0 ≠ farN := fun e => hL ((h.far f hf).2 ((h'.far f hf).1 e))
        obtain ⟨_, ⟨c, hw⟩, hm⟩ := h.way f hf hL
        obtain ⟨_, ⟨c', hw'⟩, hm'⟩ := h'.way f hf hM
        exact Nat.le_antisymm (hm _ _ hw') (hm' _ _ hw)
    rw [List.getElem?_eq_getElem (by rw [h.len]; exact hf), List.getElem?_eq_getElem (by rw [h'.len]; exact hf)]
    rw [List.getD_eq_getElem?_getD, List.getD_eq_getElem?_getD, List.getElem?_eq_getElem (by rw [h.len]; exact hf), List.getElem?_eq_getElem (by rw [h'.len]; exact hf)] at e
    exact congrArg some e
  · rw [List.getElem?_eq_none (by rw [h.len]; omega), List.getElem?_eq_none (by rw [h'.len]; omega)]
theorem Dst.zero {ags : List Ag} {used p : Nat} {L : List Nat} (h : Dst ags used p L) : L.getD 0 0 = 0 := by
  have h0 : nn 0 p = 0 := by unfold nn; simp
  have hc : Clr ags used p 0 := ⟨0, 0, .done h0⟩
  have hne : L.getD 0 0 ≠ farN := fun e => (h.far 0 (by omega)).1 e hc
  have := (h.way 0 (by omega) hne).2.2 0 0 (.done h0)
  omega
theorem far_dst {ags : List Ag} {used p : Nat} {os : Nat → Option Wk} (hok : Oks ags) (h : ∀ f, f < 64 → FoundO ags used 1 (-1) (f, 0, 0) (fun t => decide (nn t.1 p = 0)) (os f)) :
    ∃ L, Dst ags used p L ∧ ∀ k, k ≤ 64 → farL os k = bestL L k := by
  have spec : ∀ f, f < 64 → (((os f).isSome = true ↔ Clr ags used p f) ∧ ((os f).isSome = true → (wayO (os f)).how.length ≤ 63 ∧ (∃ c, Wy ags used p f c (wayO (os f)).how.length) ∧ ∀ c k, Wy ags used p f c k → (wayO (os f)).how.length ≤ k)) := fun f hf => by
    obtain ⟨s1, s2, s3⟩ := short_spec (h f hf)
    refine ⟨s1, fun hs => ?_⟩
    have hn : os f ≠ none := fun e => by rw [e] at hs; cases hs
    have h2 := s2.resolve_right hn
    have h3 := s3.resolve_left hn
    obtain ⟨c, hw⟩ := h2
    obtain ⟨c', k', ho⟩ := Opt.ex hw
    have h63 := Opt.short hok hf ho
    have h4 := h3 _ _ ho.1
    exact ⟨by omega, ⟨c, hw⟩, h3⟩
  have get : ∀ f, f < 64 → ((List.range 64).map fun f => if (os f).isSome = true then (wayO (os f)).how.length else farN).getD f 0 = if (os f).isSome = true then (wayO (os f)).how.length else farN := fun f hf => by
    simp [List.getD_eq_getElem?_getD, hf]
  refine ⟨(List.range 64).map fun f => if (os f).isSome = true then (wayO (os f)).how.length else farN, ⟨by simp, fun f hf => ?_, fun f hf hne => ?_⟩, ?_⟩
  · rw [get f hf]
    obtain ⟨h1, h2⟩ := spec f hf
    by_cases hs : (os f).isSome = true
    · rw [if_pos hs]
      have := (h2 hs).1
      exact ⟨fun e => by unfold farN at e; omega, fun hc => absurd (h1.1 hs) hc⟩
    · rw [if_neg hs]
      exact ⟨fun _ hc => hs (h1.2 hc), fun _ => rfl⟩
  · rw [get f hf] at hne ⊢
    by_cases hs : (os f).isSome = true
    · rw [if_pos hs]
      exact (spec f hf).2 hs
    · rw [if_neg hs] at hne
      exact absurd rfl hne
  · intro k
    induction k with
    | zero => intro _; rfl
    | succ k ih =>
      intro hk
      unfold farL bestL
      rw [ih (by omega), get k (by omega)]
      by_cases hs : (os k).isSome = true
      · rw [if_pos hs]
        have h63 := ((spec k (by omega)).2 hs).1
        by_cases hc : (bestL ((List.range 64).map fun f => if (os f).isSome = true then (wayO (os f)).how.length else farN) k).2 < (wayO (os k)).how.length
        · rw [if_pos (by rw [hs, Bool.true_and]; exact decide_eq_true (by omega)), if_pos ⟨by unfold farN; omega, hc⟩]
        · rw [if_neg (by rw [hs, Bool.true_and]; exact fun h => hc (by have := of_decide_eq_true h; omega)), if_neg (fun h => hc h.2)]
      · rw [if_neg hs, if_neg (by rw [Bool.not_eq_true] at hs; rw [hs]; simp), if_neg (fun h => Nat.lt_irrefl _ h.1)]
end Go.Proofs.YtofkhehcnfiopaaDoor.N
namespace Go.Proofs.YtofkhehcnfiopaaDoor.N
open Go Go.RowKit Go.Proofs

theorem rFarthest_ok (A : Option Addr) (c : Nat) (ags : List Ag) (hok : Oks ags) (p : Nat) (hp : p < 64) (w : World) (hA : RdL Ag.cells 5 w A ags) : Calls Tryd.prog 66 #[.slice A ags.length c, .int .i64 (p : Int)] w fun e w' => ∃ L, Dst ags (usedAll ags.length) p L ∧ e = .returned (.tuple #[.int .i64 ((bestL L 64).1 : Int), .int .i64 ((bestL L 64).2 : Int), .int .i64 0]) ∧ Grew w w' [] := by
  refine enter (N := 46) [(0, .slice A ags.length c), (1, .int .i64 (p : Int))] Tryd.func66 rfl Tryd.ntmps66 rfl rfl ?_
  refine cod_seq ?_
  refine cod_region ?_
  refine lst_assign rfl rfl ?_
  refine lst_assign rfl rfl ?_
  refine lst_assign rfl rfl ?_
  refine lst_nil ?_
  refine ex_then ?_
  refine cod_seq ?_
  refine cod_seq ?_
  refine cod_region ?_
  refine lst_move rfl rfl ?_
  refine lst_move rfl rfl ?_
  refine lst_fn0 (v := .int .i64 0) (vs := [_, _, _]) rfl rfl F.ent86 (fun a w ha => by
    have h := asked_c A c (ags.map Ag.raw) 0 (p : Int) w (hA.raw.later ha.below)
    rw [List.length_map, show askedR (ags.map Ag.raw) 0 (p : Int) = 0 from askedR_ok (m := 0) hok (by omega) (by omega)] at h
    exact h) ?_
  refine lst_assign rfl rfl ?_
  refine lst_nil ?_
  refine ex_then ?_
  refine cod_seq ?_
  refine cod_region ?_
  refine lst_move rfl rfl ?_
  refine lst_int rfl rfl rfl bin_neq ?_
  refine lst_nil ?_
  refine ex_then ?_
  refine cod_cond_false rfl ?_
  refine cod_skip ?_
  refine ex_then ?_
  refine cod_seq ?_
  refine cod_region ?_
  refine lst_move rfl rfl ?_
  refine lst_move rfl rfl ?_
  refine lst_fn (X := List Nat × Nat) (vs := [_, _, _]) (p := fun y => Dst ags (usedAll ags.length) p y.1) (val := fun y => .slice (some ⟨y.2, 0, none⟩) 64 64) (rs := fun y => [.row 3 1 (some ⟨y.2, 0, none⟩) 64 64 (ints y.1)]) rfl rfl F.ent103 (fun a w ha => (rPuts_c A c ags hok p hp (usedAll ags.length) (-1) (fun i hi => by rw [usedAll_bit]; simp [hi]) w (hA.later ha.below)).mono (fun e w' h => by obtain ⟨L, b, h1, h2, h3⟩ := h; exact ⟨(L, b), h1, h2, h3⟩)) ?_
  rintro ⟨L0, bP0⟩ hD0
  dsimp only [List.cons_append, List.nil_append] at hD0 ⊢
  have hll0 := hD0.len
  refine lst_assign rfl rfl ?_
  refine lst_nil ?_
  refine ex_then ?_
  refine cod_seq ?_
  refine cod_region ?_
  refine lst_assign rfl rfl ?_
  refine lst_nil ?_
  refine ex_then ?_
  refine cod_seq ?_
  refine cod_seq ?_
  refine cod_region ?_
  refine lst_assign rfl rfl ?_
  refine lst_nil ?_
  refine ex_then ?_
  refine cod_block ?_
  refine cod_loop (G := Nat × Nat) (fun g => g.1 ≤ 64 ∧ g.2 < 64 ∧ g.2 = (bestL L0 g.1).1 ∧ L0.getD g.2 0 = (bestL L0 g.1).2) (fun g => 64 - g.1) (fun g => [(8, .slice (some ⟨bP0, 0, none⟩) 64 64), (9, .int .i64 (g.2 : Int)), (10, .int .i64 (g.1 : Int))]) (fun g => [.row 3 1 (some ⟨bP0, 0, none⟩) 64 64 (ints L0)]) (0, 0) ⟨Nat.zero_le _, by (try dsimp only); omega, rfl, hD0.zero⟩ (by repeat (first | exact Sub.nil _ | refine Sub.cons rfl ?_)) (by repeat (first | exact List.Sublist.refl _ | exact List.nil_sublist _ | refine List.Sublist.cons_cons _ ?_ | refine List.Sublist.cons _ ?_)) ?_
  rintro ⟨k, bs⟩ hk
  (try dsimp only at hk ⊢)
  refine cod_seq ?_
  refine cod_seq ?_
  refine cod_region ?_
  refine lst_move rfl rfl ?_
  refine lst_int rfl rfl rfl bin_leq ?_
  refine lst_nil ?_
  refine ex_then ?_
  refine cod_cond_dec rfl (fun hc1 => ?_) (fun hc1 => ?_)
  · skip
    have hk6 : k < 64 := by omega
    have hbs := hk.2.1
    obtain ⟨n1, hn1⟩ : ∃ n, L0[k]? = some n := ⟨_, List.getElem?_eq_getElem (by omega)⟩
    have hd1 : L0.getD k 0 = n1 := by rw [List.getD_eq_getElem?_getD, hn1]; rfl
    have hfar1 := hD0.far k hk6
    rw [hd1] at hfar1
    unfold farN at hfar1
    obtain ⟨n2, hn2⟩ : ∃ n, L0[bs]? = some n := ⟨_, List.getElem?_eq_getElem (by omega)⟩
    have hd2 : L0.getD bs 0 = n2 := by rw [List.getD_eq_getElem?_getD, hn2]; rfl
    have hfar2 := hD0.far bs hbs
    rw [hd2] at hfar2
    unfold farN at hfar2
    refine cod_skip ?_
    refine ex_then ?_
    refine cod_seq ?_
    refine cod_block ?_
    refine cod_seq ?_
    refine any_begin [] F.follows 16 rfl [false, false, false, false, false, false, false, false, false, false, false, false, false, false, false, false] rfl ?_
    refine any_take (listed' := [true, false, false, false, false, false, false, false, false, false, false, false, false, false, false, false].toArray) 0 rfl rfl rfl (by kernel_rfl) (by kernel_rfl) (by kernel_rfl) (by repeat (first | exact List.Sublist.refl _ | exact List.nil_sublist _ | refine List.Sublist.cons_cons _ ?_ | refine List.Sublist.cons _ ?_)) (yld_move rfl) rfl ?_
    refine any_take (listed' := [true, true, false, false, false, false, false, false, false, false, false, false, false, false, false, false].toArray) 1 rfl rfl rfl (by kernel_rfl) (by kernel_rfl) (by kernel_rfl) (by repeat (first | exact List.Sublist.refl _ | exact List.nil_sublist _ | refine List.Sublist.cons_cons _ ?_ | refine List.Sublist.cons _ ?_)) (yld_move rfl) rfl ?_
    refine any_take (listed' := [true, true, true, false, false, false, false, false, false, false, false, false, false, false, false, false].toArray) 2 rfl rfl rfl (by kernel_rfl) (by kernel_rfl) (by kernel_rfl) (by repeat (first | exact List.Sublist.refl _ | exact List.nil_sublist _ | refine List.Sublist.cons_cons _ ?_ | refine List.Sublist.cons _ ?_)) (yld_index (j := k) rfl rfl Tryd.underlying25 F.ti3 rfl hk6) rfl ?_
    refine any_take (listed' := [true, true, true, true, false, false, false, false, false, false, false, false, false, false, false, false].toArray) 3 rfl rfl rfl (by kernel_rfl) (by kernel_rfl) (by kernel_rfl) (by repeat (first | exact List.Sublist.refl _ | exact List.nil_sublist _ | refine List.Sublist.cons_cons _ ?_ | refine List.Sublist.cons _ ?_)) (yld_load_at (v := .int .i64 (n1 : Int)) rfl F.one3 (fun a w ha => row_cell ha (InR.mem (A := (some ⟨bP0, 0, none⟩))) rfl (by rw [Nat.zero_add]; exact ints_get hn1))) rfl ?_
    refine any_take (listed' := [true, true, true, true, true, false, false, false, false, false, false, false, false, false, false, false].toArray) 4 rfl rfl rfl (by kernel_rfl) (by kernel_rfl) (by kernel_rfl) (by repeat (first | exact List.Sublist.refl _ | exact List.nil_sublist _ | refine List.Sublist.cons_cons _ ?_ | refine List.Sublist.cons _ ?_)) (yld_int rfl rfl bin_lss) rfl ?_
    refine any_take (listed' := [true, true, true, true, true, true, false, false, false, false, false, false, false, false, false, false].toArray) 5 rfl rfl rfl (by kernel_rfl) (by kernel_rfl) (by kernel_rfl) (by repeat (first | exact List.Sublist.refl _ | exact List.nil_sublist _ | refine List.Sublist.cons_cons _ ?_ | refine List.Sublist.cons _ ?_)) (yld_move rfl) rfl ?_
    refine any_split_bool (t := 29) rfl (fun hg29 => ?_) (fun hg29 => ?_)
    · skip
      refine any_take_on (listed' := [true, true, true, true, true, true, true, false, false, false, false, false, false, false, false, false].toArray) 6 rfl rfl rfl rfl rfl (by kernel_rfl) (by kernel_rfl) (by kernel_rfl) (by repeat (first | exact List.Sublist.refl _ | exact List.nil_sublist _ | refine List.Sublist.cons_cons _ ?_ | refine List.Sublist.cons _ ?_)) (yld_move rfl) rfl ?_
      refine any_take_on (listed' := [true, true, true, true, true, true, true, true, false, false, false, false, false, false, false, false].toArray) 7 rfl rfl rfl rfl rfl (by kernel_rfl) (by kernel_rfl) (by kernel_rfl) (by repeat (first | exact List.Sublist.refl _ | exact List.nil_sublist _ | refine List.Sublist.cons_cons _ ?_ | refine List.Sublist.cons _ ?_)) (yld_move rfl) rfl ?_
      refine any_take_on (listed' := [true, true, true, true, true, true, true, true, true, false, false, false, false, false, false, false].toArray) 8 rfl rfl rfl rfl rfl (by kernel_rfl) (by kernel_rfl) (by kernel_rfl) (by repeat (first | exact List.Sublist.refl _ | exact List.nil_sublist _ | refine List.Sublist.cons_cons _ ?_ | refine List.Sublist.cons _ ?_)) (yld_index (j := k) rfl rfl Tryd.underlying25 F.ti3 rfl hk6) rfl ?_
      refine any_take_on (listed' := [true, true, true, true, true, true, true, true, true, true, false, false, false, false, false, false].toArray) 9 rfl rfl rfl rfl rfl (by kernel_rfl) (by kernel_rfl) (by kernel_rfl) (by repeat (first | exact List.Sublist.refl _ | exact List.nil_sublist _ | refine List.Sublist.cons_cons _ ?_ | refine List.Sublist.cons _ ?_)) (yld_load_at (v := .int .i64 (n1 : Int)) rfl F.one3 (fun a w ha => row_cell ha (InR.mem (A := (some ⟨bP0, 0, none⟩))) rfl (by rw [Nat.zero_add]; exact ints_get hn1))) rfl ?_
      refine any_take_on (listed' := [true, true, true, true, true, true, true, true, true, true, true, false, false, false, false, false].toArray) 10 rfl rfl rfl rfl rfl (by kernel_rfl) (by kernel_rfl) (by kernel_rfl) (by repeat (first | exact List.Sublist.refl _ | exact List.nil_sublist _ | refine List.Sublist.cons_cons _ ?_ | refine List.Sublist.cons _ ?_)) (yld_move rfl) rfl ?_
      refine any_take_on (listed' := [true, true, true, true, true, true, true, true, true, true, true, true, false, false, false, false].toArray) 11 rfl rfl rfl rfl rfl (by kernel_rfl) (by kernel_rfl) (by kernel_rfl) (by repeat (first | exact List.Sublist.refl _ | exact List.nil_sublist _ | refine List.Sublist.cons_cons _ ?_ | refine List.Sublist.cons _ ?_)) (yld_move rfl) rfl ?_
      refine any_take_on (listed' := [true, true, true, true, true, true, true, true, true, true, true, true, true, false, false, false].toArray) 12 rfl rfl rfl rfl rfl (by kernel_rfl) (by kernel_rfl) (by kernel_rfl) (by repeat (first | exact List.Sublist.refl _ | exact List.nil_sublist _ | refine List.Sublist.cons_cons _ ?_ | refine List.Sublist.cons _ ?_)) (yld_index (j := bs) rfl rfl Tryd.underlying25 F.ti3 rfl hbs) rfl ?_
      refine any_take_on (listed' := [true, true, true, true, true, true, true, true, true, true, true, true, true, true, false, false].toArray) 13 rfl rfl rfl rfl rfl (by kernel_rfl) (by kernel_rfl) (by kernel_rfl) (by repeat (first | exact List.Sublist.refl _ | exact List.nil_sublist _ | refine List.Sublist.cons_cons _ ?_ | refine List.Sublist.cons _ ?_)) (yld_load_at (v := .int .i64 (n2 : Int)) rfl F.one3 (fun a w ha => row_cell ha (InR.mem (A := (some ⟨bP0, 0, none⟩))) rfl (by rw [Nat.zero_add]; exact ints_get hn2))) rfl ?_
      refine any_take_on (listed' := [true, true, true, true, true, true, true, true, true, true, true, true, true, true, true, false].toArray) 14 rfl rfl rfl rfl rfl (by kernel_rfl) (by kernel_rfl) (by kernel_rfl) (by repeat (first | exact List.Sublist.refl _ | exact List.nil_sublist _ | refine List.Sublist.cons_cons _ ?_ | refine List.Sublist.cons _ ?_)) (yld_int rfl rfl bin_gtr) rfl ?_
      refine any_take (listed' := [true, true, true, true, true, true, true, true, true, true, true, true, true, true, true, true].toArray) 15 rfl rfl rfl (by kernel_rfl) (by kernel_rfl) (by kernel_rfl) (by repeat (first | exact List.Sublist.refl _ | exact List.nil_sublist _ | refine List.Sublist.cons_cons _ ?_ | refine List.Sublist.cons _ ?_)) (yld_pick_true rfl rfl) rfl ?_
      refine any_done rfl (by kernel_rfl) ?_
      refine ex_then ?_
      refine cod_cond_bool rfl (fun hc2 => ?_) (fun hc2 => ?_)
      · skip
        refine cod_region ?_
        refine lst_move rfl rfl ?_
        refine lst_assign rfl rfl ?_
        refine lst_nil ?_
        refine ex_block_normal ?_
        refine ex_then ?_
        refine cod_region ?_
        refine lst_move rfl rfl ?_
        refine lst_int rfl rfl rfl (fun w => bin_add w (wrap_i64' _ (by omega) (by omega))) ?_
        refine lst_assign rfl rfl ?_
        refine lst_nil ?_
        have e : bestL L0 (k + 1) = (k, n1) := by
          conv => lhs; unfold bestL
          rw [hd1, if_pos ⟨by unfold farN; have := of_decide_eq_true hg29; omega, by have := of_decide_eq_true hc2; have := hk.2.2.2; omega⟩]
        refine ex_round (k + 1, k) ⟨by omega, hk6, by rw [e], by rw [e]; exact hd1⟩ (by (try dsimp only); omega) (by repeat (first | exact Sub.nil _ | refine Sub.cons rfl ?_)) (by repeat (first | exact List.Sublist.refl _ | exact List.nil_sublist _ | refine List.Sublist.cons_cons _ ?_ | refine List.Sublist.cons _ ?_))
      · skip
        refine cod_skip ?_
        refine ex_block_normal ?_
        refine ex_then ?_
        refine cod_region ?_
        refine lst_move rfl rfl ?_
        refine lst_int rfl rfl rfl (fun w => bin_add w (wrap_i64' _ (by omega) (by omega))) ?_
        refine lst_assign rfl rfl ?_
        refine lst_nil ?_
        have e : bestL L0 (k + 1) = bestL L0 k := by
          conv => lhs; unfold bestL
          rw [hd1, if_neg (fun h => by have := of_decide_eq_false hc2; have := hk.2.2.2; omega)]
        refine ex_round (k + 1, bs) ⟨by omega, hbs, by rw [e]; exact hk.2.2.1, by rw [e]; exact hk.2.2.2⟩ (by (try dsimp only); omega) (by repeat (first | exact Sub.nil _ | refine Sub.cons rfl ?_)) (by repeat (first | exact List.Sublist.refl _ | exact List.nil_sublist _ | refine List.Sublist.cons_cons _ ?_ | refine List.Sublist.cons _ ?_))
    · skip
      refine any_take_off (listed' := [true, true, true, true, true, true, true, false, false, false, false, false, false, false, false, false].toArray) 6 rfl rfl rfl rfl rfl (by kernel_rfl) (by kernel_rfl) (by kernel_rfl) (by repeat (first | exact List.Sublist.refl _ | exact List.nil_sublist _ | refine List.Sublist.cons_cons _ ?_ | refine List.Sublist.cons _ ?_)) rfl ?_
      refine any_take_off (listed' := [true, true, true, true, true, true, true, true, false, false, false, false, false, false, false, false].toArray) 7 rfl rfl rfl rfl rfl (by kernel_rfl) (by kernel_rfl) (by kernel_rfl) (by repeat (first | exact List.Sublist.refl _ | exact List.nil_sublist _ | refine List.Sublist.cons_cons _ ?_ | refine List.Sublist.cons _ ?_)) rfl ?_
      refine any_take_off (listed' := [true, true, true, true, true, true, true, true, true, false, false, false, false, false, false, false].toArray) 8 rfl rfl rfl rfl rfl (by kernel_rfl) (by kernel_rfl) (by kernel_rfl) (by repeat (first | exact List.Sublist.refl _ | exact List.nil_sublist _ | refine List.Sublist.cons_cons _ ?_ | refine List.Sublist.cons _ ?_)) rfl ?_
      refine any_take_off (listed' := [true, true, true, true, true, true, true, true, true, true, false, false, false, false, false, false].toArray) 9 rfl rfl rfl rfl rfl (by kernel_rfl) (by kernel_rfl) (by kernel_rfl) (by repeat (first | exact List.Sublist.refl _ | exact List.nil_sublist _ | refine List.Sublist.cons_cons _ ?_ | refine List.Sublist.cons _ ?_)) rfl ?_
      refine any_take_off (listed' := [true, true, true, true, true, true, true, true, true, true, true, false, false, false, false, false].toArray) 10 rfl rfl rfl rfl rfl (by kernel_rfl) (by kernel_rfl) (by kernel_rfl) (by repeat (first | exact List.Sublist.refl _ | exact List.nil_sublist _ | refine List.Sublist.cons_cons _ ?_ | refine List.Sublist.cons _ ?_)) rfl ?_
      refine any_take_off (listed' := [true, true, true, true, true, true, true, true, true, true, true, true, false, false, false, false].toArray) 11 rfl rfl rfl rfl rfl (by kernel_rfl) (by kernel_rfl) (by kernel_rfl) (by repeat (first | exact List.Sublist.refl _ | exact List.nil_sublist _ | refine List.Sublist.cons_cons _ ?_ | refine List.Sublist.cons _ ?_)) rfl ?_
      refine any_take_off (listed' := [true, true, true, true, true, true, true, true, true, true, true, true, true, false, false, false].toArray) 12 rfl rfl rfl rfl rfl (by kernel_rfl) (by kernel_rfl) (by kernel_rfl) (by repeat (first | exact List.Sublist.refl _ | exact List.nil_sublist _ | refine List.Sublist.cons_cons _ ?_ | refine List.Sublist.cons _ ?_)) rfl ?_
      refine any_take_off (listed' := [true, true, true, true, true, true, true, true, true, true, true, true, true, true, false, false].toArray) 13 rfl rfl rfl rfl rfl (by kernel_rfl) (by kernel_rfl) (by kernel_rfl) (by repeat (first | exact List.Sublist.refl _ | exact List.nil_sublist _ | refine List.Sublist.cons_cons _ ?_ | refine List.Sublist.cons _ ?_)) rfl ?_
      refine any_take_off (listed' := [true, true, true, true, true, true, true, true, true, true, true, true, true, true, true, false].toArray) 14 rfl rfl rfl rfl rfl (by kernel_rfl) (by kernel_rfl) (by kernel_rfl) (by repeat (first | exact List.Sublist.refl _ | exact List.nil_sublist _ | refine List.Sublist.cons_cons _ ?_ | refine List.Sublist.cons _ ?_)) rfl ?_
      refine any_take (listed' := [true, true, true, true, true, true, true, true, true, true, true, true, true, true, true, true].toArray) 15 rfl rfl rfl (by kernel_rfl) (by kernel_rfl) (by kernel_rfl) (by repeat (first | exact List.Sublist.refl _ | exact List.nil_sublist _ | refine List.Sublist.cons_cons _ ?_ | refine List.Sublist.cons _ ?_)) (yld_pick_false rfl rfl) rfl ?_
      refine any_done rfl (by kernel_rfl) ?_
      refine ex_then ?_
      refine cod_cond_bool rfl (fun hc2 => ?_) (fun hc2 => ?_)
      · skip
        refine cod_region ?_
        refine lst_move rfl rfl ?_
        refine lst_assign rfl rfl ?_
        refine lst_nil ?_
        refine ex_block_normal ?_
        refine ex_then ?_
        refine cod_region ?_
        refine lst_move rfl rfl ?_
        refine lst_int rfl rfl rfl (fun w => bin_add w (wrap_i64' _ (by omega) (by omega))) ?_
        refine lst_assign rfl rfl ?_
        refine lst_nil ?_
        cases hc2
      · skip
        refine cod_skip ?_
        refine ex_block_normal ?_
        refine ex_then ?_
        refine cod_region ?_
        refine lst_move rfl rfl ?_
        refine lst_int rfl rfl rfl (fun w => bin_add w (wrap_i64' _ (by omega) (by omega))) ?_
        refine lst_assign rfl rfl ?_
        refine lst_nil ?_
        have e : bestL L0 (k + 1) = bestL L0 k := by
          conv => lhs; unfold bestL
          rw [hd1, if_neg (fun h => by have := of_decide_eq_false hg29; have := h.1; unfold farN at this; omega)]
        refine ex_round (k + 1, bs) ⟨by omega, hbs, by rw [e]; exact hk.2.2.1, by rw [e]; exact hk.2.2.2⟩ (by (try dsimp only); omega) (by repeat (first | exact Sub.nil _ | refine Sub.cons rfl ?_)) (by repeat (first | exact List.Sublist.refl _ | exact List.nil_sublist _ | refine List.Sublist.cons_cons _ ?_ | refine List.Sublist.cons _ ?_))
  · skip
    obtain rfl : k = 64 := by omega
    have hbs := hk.2.1
    obtain ⟨n2, hn2⟩ : ∃ n, L0[bs]? = some n := ⟨_, List.getElem?_eq_getElem (by omega)⟩
    have hd2 : L0.getD bs 0 = n2 := by rw [List.getD_eq_getElem?_getD, hn2]; rfl
    have hfar2 := hD0.far bs hbs
    rw [hd2] at hfar2
    unfold farN at hfar2
    refine cod_exit ?_
    refine ex_then_exit ?_
    refine ex_then_exit ?_
    refine ex_block_exit ?_
    refine ex_then ?_
    refine cod_seq ?_
    refine any_begin [] F.follows 8 rfl [false, false, false, false, false, false, false, false] rfl ?_
    refine any_take (listed' := [true, false, false, false, false, false, false, false].toArray) 0 rfl rfl rfl (by kernel_rfl) (by kernel_rfl) (by kernel_rfl) (by repeat (first | exact List.Sublist.refl _ | exact List.nil_sublist _ | refine List.Sublist.cons_cons _ ?_ | refine List.Sublist.cons _ ?_)) (yld_move rfl) rfl ?_
    refine any_take (listed' := [true, true, false, false, false, false, false, false].toArray) 1 rfl rfl rfl (by kernel_rfl) (by kernel_rfl) (by kernel_rfl) (by repeat (first | exact List.Sublist.refl _ | exact List.nil_sublist _ | refine List.Sublist.cons_cons _ ?_ | refine List.Sublist.cons _ ?_)) (yld_move rfl) rfl ?_
    refine any_take (listed' := [true, true, true, false, false, false, false, false].toArray) 2 rfl rfl rfl (by kernel_rfl) (by kernel_rfl) (by kernel_rfl) (by repeat (first | exact List.Sublist.refl _ | exact List.nil_sublist _ | refine List.Sublist.cons_cons _ ?_ | refine List.Sublist.cons _ ?_)) (yld_move rfl) rfl ?_
    refine any_take (listed' := [true, true, true, true, false, false, false, false].toArray) 3 rfl rfl rfl (by kernel_rfl) (by kernel_rfl) (by kernel_rfl) (by repeat (first | exact List.Sublist.refl _ | exact List.nil_sublist _ | refine List.Sublist.cons_cons _ ?_ | refine List.Sublist.cons _ ?_)) (yld_index (j := bs) rfl rfl Tryd.underlying25 F.ti3 rfl hbs) rfl ?_
    refine any_take (listed' := [true, true, true, true, true, false, false, false].toArray) 4 rfl rfl rfl (by kernel_rfl) (by kernel_rfl) (by kernel_rfl) (by repeat (first | exact List.Sublist.refl _ | exact List.nil_sublist _ | refine List.Sublist.cons_cons _ ?_ | refine List.Sublist.cons _ ?_)) (yld_load_at (v := .int .i64 (n2 : Int)) rfl F.one3 (fun a w ha => row_cell ha (InR.mem (A := (some ⟨bP0, 0, none⟩))) rfl (by rw [Nat.zero_add]; exact ints_get hn2))) rfl ?_
    refine any_take (listed' := [true, true, true, true, true, true, false, false].toArray) 5 rfl rfl rfl (by kernel_rfl) (by kernel_rfl) (by kernel_rfl) (by repeat (first | exact List.Sublist.refl _ | exact List.nil_sublist _ | refine List.Sublist.cons_cons _ ?_ | refine List.Sublist.cons _ ?_)) (yld_assign rfl) rfl ?_
    refine any_take (listed' := [true, true, true, true, true, true, true, false].toArray) 6 rfl rfl rfl (by kernel_rfl) (by kernel_rfl) (by kernel_rfl) (by repeat (first | exact List.Sublist.refl _ | exact List.nil_sublist _ | refine List.Sublist.cons_cons _ ?_ | refine List.Sublist.cons _ ?_)) (yld_assign rfl) rfl ?_
    refine any_take (listed' := [true, true, true, true, true, true, true, true].toArray) 7 rfl rfl rfl (by kernel_rfl) (by kernel_rfl) (by kernel_rfl) (by repeat (first | exact List.Sublist.refl _ | exact List.nil_sublist _ | refine List.Sublist.cons_cons _ ?_ | refine List.Sublist.cons _ ?_)) (yld_assign rfl) rfl ?_
    refine any_done rfl (by kernel_rfl) ?_
    refine ex_then ?_
    refine cod_ret ?_
    exact ex_ret rfl (fun a w ha => res_three rfl rfl rfl rfl ha) (fun a w ha => ⟨L0, hD0, by rw [← hk.2.2.1, ← hk.2.2.2, hd2], ha.grown (List.nil_sublist _)⟩)

theorem rFarthest_bad (A : Option Addr) (c : Nat) (l : List RA) (p : Int) (hn : askedR l 0 p ≠ 0) (w : World) (hA : RdL RA.cells 5 w A l) : Calls Tryd.prog 66 #[.slice A l.length c, .int .i64 p] w fun e w' => e = .returned (.tuple #[.int .i64 0, .int .i64 0, .int .i64 ((askedR l 0 p : Nat) : Int)]) ∧ Grew w w' [] := by
  refine enter (N := 46) [(0, .slice A l.length c), (1, .int .i64 p)] Tryd.func66 rfl Tryd.ntmps66 rfl rfl ?_
  refine cod_seq ?_
  refine cod_region ?_
  refine lst_assign rfl rfl ?_
  refine lst_assign rfl rfl ?_
  refine lst_assign rfl rfl ?_
  refine lst_nil ?_
  refine ex_then ?_
  refine cod_seq ?_
  refine cod_seq ?_
  refine cod_region ?_
  refine lst_move rfl rfl ?_
  refine lst_move rfl rfl ?_
  refine lst_fn0 (vs := [_, _, _]) rfl rfl F.ent86 (fun a w ha => asked_c A c l 0 p w (hA.later ha.below)) ?_
  refine lst_assign rfl rfl ?_
  refine lst_nil ?_
  refine ex_then ?_
  refine cod_seq ?_
  refine cod_region ?_
  refine lst_move rfl rfl ?_
  refine lst_int rfl rfl rfl bin_neq ?_
  refine lst_nil ?_
  refine ex_then ?_
  refine cod_cond_dec rfl (fun hc0 => ?_) (fun hc0 => ?_)
  · skip
    refine cod_seq ?_
    refine cod_region ?_
    refine lst_move rfl rfl ?_
    refine lst_assign rfl rfl ?_
    refine lst_assign rfl rfl ?_
    refine lst_assign rfl rfl ?_
    refine lst_nil ?_
    refine ex_then ?_
    refine cod_ret ?_
    refine ex_then_ret ?_
    exact ex_ret rfl (fun a w ha => res_three rfl rfl rfl rfl ha) (fun a w ha => ⟨rfl, ha.grown (List.nil_sublist _)⟩)
  · skip
    exact absurd hn (by omega) -- done

end Go.Proofs.YtofkhehcnfiopaaDoor.N
namespace Go.Proofs.YtofkhehcnfiopaaDoor.N
open Go Go.RowKit Go.Proofs
/-! What is asked of whatever agents and faults. -/
theorem askedR_ok0 {l : List RA} {q : Nat} (hc : checkR l = 0) (hq : inB (q : Int) 0 63 = true) : askedR l 0 (q : Int) = 0 := by
  unfold askedR
  rw [if_neg (by simpa using hc), if_pos (by rw [in0, hq]; rfl)]
noncomputable def hopeR (l : List RA) (p : Int) : List Nat × Nat := if askedR l 0 p = 0 then (hopeL (agsOf l) p.toNat, 0) else ([], askedR l 0 p)
theorem hopeR_le (l : List RA) (p : Int) : (hopeR l p).1.length ≤ 64 := by
  unfold hopeR
  split
  · exact Nat.le_trans (fltP_len _ _) (by rw [List.length_range]; exact Nat.le_refl _)
  · exact Nat.zero_le _
theorem Hopeless_all (A : Option Addr) (c : Nat) (l : List RA) (p : Int) (w : World) (hA : RdL RA.cells 5 w A l) : Calls Tryd.prog 51 #[.slice A l.length c, .int .i64 p] w (Says w (hopeR l p).1 (hopeR l p).2) := by
  by_cases hc : checkR l = 0
  · cases hq : inB p 0 63 with
    | true =>
      obtain ⟨q, rfl, hq'⟩ := nat_of_inB hq
      have h := Hopeless_ok A c (agsOf l) (checkR_oks hc) q hq' w (hA.ag hc)
      rw [agsOf_len] at h
      unfold hopeR
      rw [if_pos (askedR_ok0 hc hq), Int.toNat_natCast]
      exact h
    | false =>
      have h1 := askedR_one (m := 0) (p := p) hc (.inr hq)
      have h := Hopeless_bad0 A c (agsOf l) (checkR_oks hc) p hq w (hA.ag hc)
      rw [agsOf_len] at h
      unfold hopeR
      rw [h1, if_neg (by decide)]
      exact h.mono fun e w' h => Says.nil h
  · have h1 := askedR_check (m := 0) (p := p) hc
    unfold hopeR
    rw [h1, if_neg hc]
    exact (Hopeless_bad A c l hc p w hA).mono fun e w' h => Says.nil h
theorem rHopeless_all (A : Option Addr) (c : Nat) (l : List RA) (p : Int) (w : World) (hA : RdL RA.cells 5 w A l) : Calls Tryd.prog 65 #[.slice A l.length c, .int .i64 p] w (Says w (hopeR l p).1 (hopeR l p).2) := by
  unfold hopeR
  by_cases h0 : askedR l 0 p = 0
  · obtain ⟨hc, _, hq⟩ := askedR_zero h0
    obtain ⟨q, rfl, hq'⟩ := nat_of_inB hq
    have h := rHopeless_ok A c (agsOf l) (checkR_oks hc) q hq' w (hA.ag hc)
    rw [agsOf_len] at h
    rw [if_pos h0, Int.toNat_natCast]
    exact h
  · rw [if_neg h0]
    exact (rHopeless_bad A c l p h0 w hA).mono fun e w' h => Says.nil h
/-- What Farthest says. -/
def FarS (l : List RA) (p : Int) (n m E : Nat) : Prop :=
  (askedR l 0 p = 0 ∧ E = 0 ∧ ∃ L, Dst (agsOf l) (usedAll (agsOf l).length) p.toNat L ∧ n = (bestL L 64).1 ∧ m = (bestL L 64).2) ∨ (askedR l 0 p ≠ 0 ∧ E = askedR l 0 p ∧ n = 0 ∧ m = 0)
theorem FarS.unique {l : List RA} {p : Int} {n m E n' m' E' : Nat} (h : FarS l p n m E) (h' : FarS l p n' m' E') : n = n' ∧ m = m' ∧ E = E' := by
  rcases h with ⟨h0, rfl, L, hL, rfl, rfl⟩ | ⟨h0, rfl, rfl, rfl⟩
  · rcases h' with ⟨_, rfl, M, hM, rfl, rfl⟩ | ⟨h1, _⟩
    · obtain rfl := hL.unique hM
      exact ⟨rfl, rfl, rfl⟩
    · exact absurd h0 h1
  · rcases h' with ⟨h1, _⟩ | ⟨_, rfl, rfl, rfl⟩
    · exact absurd h1 h0
    · exact ⟨rfl, rfl, rfl⟩
def FarC (l : List RA) (p : Int) (w : World) (e : Ending) (w' : World) : Prop := ∃ n m E : Nat, FarS l p n m E ∧ e = .returned (.tuple #[.int .i64 (n : Int), .int .i64 (m : Int), .int .i64 (E : Int)]) ∧ Grew w w' []
theorem Farthest_all (A : Option Addr) (c : Nat) (l : List RA) (p : Int) (w : World) (hA : RdL RA.cells 5 w A l) : Calls Tryd.prog 54 #[.slice A l.length c, .int .i64 p] w (FarC l p w) := by
  by_cases hc : checkR l = 0
  · cases hq : inB p 0 63 with
    | true =>
      obtain ⟨q, rfl, hq'⟩ := nat_of_inB hq
      have h := Farthest_ok A c (agsOf l) (checkR_oks hc) q hq' w (hA.ag hc)
      rw [agsOf_len] at h
      refine h.mono fun e w' h => ?_
      obtain ⟨os, h1, h2, h3⟩ := h
      rw [← agsOf_len l] at h1
      obtain ⟨L, hL, hf⟩ := far_dst (checkR_oks hc) h1
      exact ⟨_, _, 0, .inl ⟨askedR_ok0 hc hq, rfl, L, by rw [Int.toNat_natCast]; exact hL, by rw [hf 64 (Nat.le_refl _)], by rw [hf 64 (Nat.le_refl _)]⟩, h2, h3⟩
    | false =>
      have h1 := askedR_one (m := 0) (p := p) hc (.inr hq)
      have h := Farthest_bad0 A c (agsOf l) (checkR_oks hc) p hq w (hA.ag hc)
      rw [agsOf_len] at h
      exact h.mono fun e w' h => ⟨0, 0, 1, .inr ⟨by rw [h1]; decide, h1.symm, rfl, rfl⟩, h.1, h.2⟩
  · have h1 := askedR_check (m := 0) (p := p) hc
    exact (Farthest_bad A c l hc p w hA).mono fun e w' h => ⟨0, 0, _, .inr ⟨by rw [h1]; exact hc, h1.symm, rfl, rfl⟩, h.1, h.2⟩
theorem rFarthest_all (A : Option Addr) (c : Nat) (l : List RA) (p : Int) (w : World) (hA : RdL RA.cells 5 w A l) : Calls Tryd.prog 66 #[.slice A l.length c, .int .i64 p] w (FarC l p w) := by
  by_cases h0 : askedR l 0 p = 0
  · obtain ⟨hc, _, hq⟩ := askedR_zero h0
    obtain ⟨q, rfl, hq'⟩ := nat_of_inB hq
    have h := rFarthest_ok A c (agsOf l) (checkR_oks hc) q hq' w (hA.ag hc)
    rw [agsOf_len] at h
    refine h.mono fun e w' h => ?_
    obtain ⟨L, hL, h2, h3⟩ := h
    exact ⟨_, _, 0, .inl ⟨h0, rfl, L, by rw [Int.toNat_natCast, agsOf_len]; exact hL, rfl, rfl⟩, h2, h3⟩
  · exact (rFarthest_bad A c l p h0 w hA).mono fun e w' h => ⟨0, 0, _, .inr ⟨h0, rfl, rfl, rfl⟩, h.1, h.2⟩
end Go.Proofs.YtofkhehcnfiopaaDoor.N
namespace Go.Proofs.YtofkhehcnfiopaaDoor.N
open Go Go.RowKit Go.Proofs
/-! All ascending lists of k numbers, in their order. -/
def chsL (n : Nat) : Nat → Nat → List (List Nat)
  | 0, _ => [[]]
  | k + 1, f => (List.range' f (n - f)).flatMap fun i => (chsL n k (i + 1)).map (i :: ·)
/-- .. those whose first number is less than i. -/
def chsT (n k f i : Nat) : List (List Nat) := (List.range' f (i - f)).flatMap fun y => (chsL n k (y + 1)).map (y :: ·)
theorem chsT_self (n k f : Nat) : chsT n k f f = [] := by
  unfold chsT
  rw [Nat.sub_self]
  rfl
theorem chsT_succ {n k f i : Nat} (h : f ≤ i) : chsT n k f (i + 1) = chsT n k f i ++ (chsL n k (i + 1)).map (i :: ·) := by
  unfold chsT
  rw [show i + 1 - f = (i - f) + 1 by omega, List.range'_concat, List.flatMap_append, List.flatMap_singleton, show f + 1 * (i - f) = i by omega]
theorem chsT_end {n k f i : Nat} (hi : i = max f n) : chsT n k f i = chsL n (k + 1) f := by
  unfold chsT
  rw [show i - f = n - f by omega]
  rfl
theorem chs_mem {n : Nat} : ∀ {k f : Nat} {x : List Nat}, x ∈ chsL n k f → x.length = k ∧ ∀ i ∈ x, f ≤ i ∧ i < n
  | 0, f, x, h => by
    obtain rfl : x = [] := by simpa [chsL] using h
    exact ⟨rfl, fun i hi => absurd hi List.not_mem_nil⟩
  | k + 1, f, x, h => by
    obtain ⟨i, hi, h2⟩ := List.mem_flatMap.1 h
    obtain ⟨y, hy, rfl⟩ := List.mem_map.1 h2
    have hr := List.mem_range'_1.1 hi
    obtain ⟨h3, h4⟩ := chs_mem hy
    refine ⟨by simp [h3], fun j hj => ?_⟩
    rcases List.mem_cons.1 hj with rfl | hj
    · omega
    · have := h4 j hj
      omega
theorem flat_le {α β : Type} (g : α → List β) {B : Nat} : ∀ (l : List α), (∀ x ∈ l, (g x).length ≤ B) → (l.flatMap g).length ≤ l.length * B
  | [], _ => Nat.zero_le _
  | x :: l, h => by
    rw [List.flatMap_cons, List.length_append, List.length_cons, Nat.succ_mul]
    have h1 := h x (by simp)
    have h2 := flat_le g l (fun y hy => h y (by simp [hy]))
    omega
theorem chs_len {n : Nat} (hn : n ≤ 4) : ∀ (k f : Nat), (chsL n k f).length ≤ 4 ^ k
  | 0, f => by simp [chsL]
  | k + 1, f => by
    refine Nat.le_trans (flat_le _ (B := 4 ^ k) _ (fun i _ => by rw [List.length_map]; exact chs_len hn k (i + 1))) ?_
    rw [List.length_range', Nat.pow_succ, Nat.mul_comm (4 ^ k)]
    exact Nat.mul_le_mul_right _ (by omega)
theorem chsT_len {n k f i : Nat} (hn : n ≤ 4) (hk : k ≤ 4) (hi : i ≤ 4) : (chsT n k f i).length ≤ 1024 := by
  refine Nat.le_trans (flat_le _ (B := 4 ^ k) _ (fun i _ => by rw [List.length_map]; exact chs_len hn k (i + 1))) ?_
  rw [List.length_range']
  exact Nat.le_trans (Nat.mul_le_mul (show i - f ≤ 4 by omega) (Nat.pow_le_pow_right (by omega) hk)) (by decide)
theorem chs_le {n k f : Nat} (hn : n ≤ 4) (hk : k ≤ 4) : (chsL n k f).length ≤ 256 := Nat.le_trans (chs_len hn k f) (Nat.le_trans (Nat.pow_le_pow_right (by omega) hk) (by decide))
end Go.Proofs.YtofkhehcnfiopaaDoor.N
namespace Go.Proofs.YtofkhehcnfiopaaDoor.N
open Go Go.RowKit Go.Proofs
theorem F.ent111 : Enters Tryd.prog 111 := enters_of Tryd.func111 rfl (by kernel_rfl)
theorem choose_0 (n f : Nat) (w : World) : Calls Tryd.prog 111 #[.int .i64 (f : Int), .int .i64 (n : Int), .int .i64 0] w fun e w' => ∃ (Ls : List Sl) (A : Option Addr) (c : Nat), Ls.map Sl.l = chsL n (0) (f) ∧ e = .returned (.slice A Ls.length c) ∧ Grew w w' (.row 25 1 A Ls.length c (Ls.map Sl.val) :: Ls.map Sl.res) := by
  refine enter (N := 43) [(0, .int .i64 (f : Int)), (1, .int .i64 (n : Int)), (2, .int .i64 0)] Tryd.func111 rfl Tryd.ntmps111 rfl rfl ?_
  refine cod_seq ?_
  refine cod_region ?_
  refine lst_assign rfl rfl ?_
  refine lst_nil ?_
  refine ex_then ?_
  refine cod_seq ?_
  refine cod_seq ?_
  refine cod_region ?_
  refine lst_move rfl rfl ?_
  refine lst_int rfl rfl rfl bin_eql ?_
  refine lst_nil ?_
  refine ex_then ?_
  refine cod_cond_true rfl ?_
  refine cod_seq ?_
  refine cod_region ?_
  refine lst_lit (vs := [(0, _)]) rfl rfl Tryd.underlying49 F.ti25 rfl rfl rfl ?_
  intro b13
  refine lst_as_rowN 1 1 rfl (by unfold maxLen; omega) (.head _) ?_
  refine lst_nilrow 3 1 ?_
  refine lst_assign rfl rfl ?_
  refine lst_nil ?_
  refine ex_then ?_
  refine cod_ret ?_
  refine ex_then_ret ?_
  exact ex_ret rfl (fun a w ha => res_one rfl rfl ha) (fun a w ha => ⟨[⟨none, 0, []⟩], some ⟨b13, 0, none⟩, 1, rfl, rfl, (ha.permed (List.Perm.swap _ _ _)).grown (List.Sublist.refl _)⟩)

theorem choose_s (n f k : Nat) (hn : n ≤ 4) (hf : f ≤ 5) (hk : k + 1 ≤ 5) (ih : ∀ (f : Nat) (w : World), f ≤ 5 → Calls Tryd.prog 111 #[.int .i64 (f : Int), .int .i64 (n : Int), .int .i64 (k : Int)] w (fun e w' => ∃ (Ls : List Sl) (A : Option Addr) (c : Nat), Ls.map Sl.l = chsL n (k) (f) ∧ e = .returned (.slice A Ls.length c) ∧ Grew w w' (.row 25 1 A Ls.length c (Ls.map Sl.val) :: Ls.map Sl.res))) (w : World) : Calls Tryd.prog 111 #[.int .i64 (f : Int), .int .i64 (n : Int), .int .i64 ((k + 1 : Nat) : Int)] w fun e w' => ∃ (Ls : List Sl) (A : Option Addr) (c : Nat), Ls.map Sl.l = chsL n (k + 1) (f) ∧ e = .returned (.slice A Ls.length c) ∧ Grew w w' (.row 25 1 A Ls.length c (Ls.map Sl.val) :: Ls.map Sl.res) := by
  refine enter (N := 43) [(0, .int .i64 (f : Int)), (1, .int .i64 (n : Int)), (2, .int .i64 ((k + 1 : Nat) : Int))] Tryd.func111 rfl Tryd.ntmps111 rfl rfl ?_
  refine cod_seq ?_
  refine cod_region ?_
  refine lst_assign rfl rfl ?_
  refine lst_nil ?_
  refine ex_then ?_
  refine cod_seq ?_
  refine cod_seq ?_
  refine cod_region ?_
  refine lst_move rfl rfl ?_
  refine lst_int rfl rfl rfl bin_eql ?_
  refine lst_nil ?_
  refine ex_then ?_
  refine cod_cond_false rfl ?_
  refine cod_skip ?_
  refine ex_then ?_
  refine cod_seq ?_
  refine cod_region ?_
  refine lst_assign rfl rfl ?_
  refine lst_nil ?_
  refine ex_then ?_
  refine cod_seq ?_
  refine cod_seq ?_
  refine cod_region ?_
  refine lst_move rfl rfl ?_
  refine lst_assign rfl rfl ?_
  refine lst_nil ?_
  refine ex_then ?_
  refine cod_block ?_
  refine cod_nil 25 1 ?_
  refine cod_loop' (G := Nat × Option Addr × Nat × List Sl) (fun g => f ≤ g.1 ∧ g.1 ≤ max f n ∧ g.2.2.2.map Sl.l = chsT n k f g.1) (fun g => n - g.1) (fun g => [(1, .int .i64 (n : Int)), (2, .int .i64 ((k + 1 : Nat) : Int)), (7, .slice g.2.1 g.2.2.2.length g.2.2.1), (8, .int .i64 (g.1 : Int))]) (fun g => .row 25 1 g.2.1 g.2.2.2.length g.2.2.1 (g.2.2.2.map Sl.val) :: (g.2.2.2.map Sl.res ++ [])) (f, none, 0, []) ⟨Nat.le_refl _, Nat.le_max_left _ _, (chsT_self n k f).symm⟩ (by repeat (first | exact Sub.nil _ | refine Sub.cons rfl ?_)) (by (try simp only [List.map_cons, List.map_nil, List.cons_append, List.nil_append]); repeat (first | exact Pck.nil _ | exact Pck.refl _ | exact Pck.suffix _ _ | (apply Pck.cons; focus ((repeat (first | exact Rem.here _ | apply Rem.there)); done)) | refine Pck.skip _ ?_)) ?_
  rintro ⟨i, A2, c2, Ms⟩ hI
  dsimp only at hI ⊢
  refine cod_seq ?_
  refine cod_seq ?_
  refine cod_region ?_
  refine lst_move rfl rfl ?_
  refine lst_move rfl rfl ?_
  refine lst_int rfl rfl rfl bin_lss ?_
  refine lst_nil ?_
  refine ex_then ?_
  refine cod_cond_dec rfl (fun hc1 => ?_) (fun hc1 => ?_)
  · skip
    have hin : i < n := by omega
    have hMl : Ms.length ≤ 1024 := by have h := chsT_len (n := n) (k := k) (f := f) (i := i) hn (by omega) (by omega); rw [← hI.2.2, List.length_map] at h; exact h
    refine cod_skip ?_
    refine ex_then ?_
    refine cod_seq ?_
    refine cod_block ?_
    refine cod_seq ?_
    refine cod_region ?_
    refine lst_move rfl rfl ?_
    refine lst_int rfl rfl rfl (fun w => bin_add w (wrap_i64' _ (by omega) (by omega))) ?_
    refine lst_move rfl rfl ?_
    refine lst_move rfl rfl ?_
    refine lst_int rfl rfl rfl (fun w => bin_sub w (show IntKind.i64.wrap (((k + 1 : Nat) : Int) - 1) = ((k : Nat) : Int) from by rw [wrap_i64' _ (by omega) (by omega)]; omega)) ?_
    refine lst_call (X := List Sl × Option Addr × Nat) (first := []) (cap := []) (vs := [_, _, _]) (p := fun y => y.1.map Sl.l = chsL n k (i + 1)) (val := fun y => .slice y.2.1 y.1.length y.2.2) (rs := fun y => .row 25 1 y.2.1 y.1.length y.2.2 (y.1.map Sl.val) :: .row 25 1 A2 Ms.length c2 (Ms.map Sl.val) :: (Ms.map Sl.res ++ (y.1.map Sl.res ++ []))) rfl rfl rfl F.ent111 (fun a w ha => (ih (i + 1) w (by omega)).mono (fun e w' h => by obtain ⟨Ls, A', c', h1, h2, h3⟩ := h; refine ⟨(Ls, A', c'), h1, h2, ?_⟩; have h4 := ha.more h3; refine h4.permed ?_; dsimp only; rw [List.cons_append]; refine List.Perm.cons _ ?_; rw [List.append_nil, List.append_nil]; exact (List.perm_middle.trans (List.Perm.cons _ List.perm_append_comm)))) ?_
    rintro ⟨Ls, A, c⟩ hLs
    dsimp only at hLs ⊢
    have hLl : Ls.length = (chsL n k (i + 1)).length := by rw [← hLs, List.length_map]
    have hL1 := chs_le (n := n) (k := k) (f := i + 1) hn (by omega)
    refine lst_assign rfl rfl ?_
    refine lst_nil ?_
    refine ex_then ?_
    refine cod_seq ?_
    refine cod_region ?_
    refine lst_assign rfl rfl ?_
    refine lst_nil ?_
    refine ex_then ?_
    refine cod_block ?_
    refine cod_loop' (G := Nat × Option Addr × Nat × List Sl) (fun g => g.1 ≤ Ls.length ∧ g.2.2.2.map Sl.l = chsT n k f i ++ ((chsL n k (i + 1)).take g.1).map (i :: ·) ∧ g.2.2.2.length = Ms.length + g.1) (fun g => Ls.length - g.1) (fun g => [(1, .int .i64 (n : Int)), (2, .int .i64 ((k + 1 : Nat) : Int)), (7, .slice g.2.1 g.2.2.2.length g.2.2.1), (8, .int .i64 (i : Int)), (9, .slice A Ls.length c), (10, .int .i64 (g.1 : Int))]) (fun g => .row 25 1 g.2.1 g.2.2.2.length g.2.2.1 (g.2.2.2.map Sl.val) :: .row 25 1 A Ls.length c (Ls.map Sl.val) :: (g.2.2.2.map Sl.res ++ (Ls.map Sl.res ++ []))) (0, A2, c2, Ms) ⟨Nat.zero_le _, by rw [hI.2.2]; simp, rfl⟩ (by repeat (first | exact Sub.nil _ | refine Sub.cons rfl ?_)) (by repeat (first | exact Pck.nil _ | exact Pck.refl _ | (apply Pck.cons; focus ((repeat (first | exact Rem.here _ | apply Rem.there)); done)) | refine Pck.skip _ ?_)) ?_
    rintro ⟨x, A3, c3, Ns⟩ hN
    dsimp only at hN ⊢
    refine cod_seq ?_
    refine cod_seq ?_
    refine cod_region ?_
    refine lst_move rfl rfl ?_
    refine lst_move rfl rfl ?_
    refine lst_len rfl rfl Tryd.underlying49 ?_
    refine lst_int rfl rfl rfl bin_lss ?_
    refine lst_nil ?_
    refine ex_then ?_
    refine cod_cond_dec rfl (fun hc2 => ?_) (fun hc2 => ?_)
    · skip
      have hx' : x < Ls.length := by omega
      obtain ⟨s, hs⟩ : ∃ s, Ls[x]? = some s := ⟨_, List.getElem?_eq_getElem hx'⟩
      have hsx : (chsL n k (i + 1))[x]? = some s.l := by rw [← hLs, List.getElem?_map, hs]; rfl
      have hsm : s ∈ Ls := List.mem_of_getElem? hs
      have hsl := (chs_mem (List.mem_of_getElem? hsx)).1
      have hNl := hN.2.2
      refine cod_know (φ := s.A = none → s.l.length = 0 ∧ s.c = 0) (fun a w ha h => row_none ha (e := 3) (size := 1) (n := s.l.length) (c := s.c) (xs := ints s.l) (by have hm : s.res ∈ Ls.map Sl.res := List.mem_map.2 ⟨s, hsm, rfl⟩; simp [hm, ← show s.res = Res.row 3 1 s.A s.l.length s.c (ints s.l) from rfl]) h) (fun hnil => ?_)
      refine cod_skip ?_
      refine ex_then ?_
      refine cod_seq ?_
      refine cod_block ?_
      refine cod_region ?_
      refine lst_move rfl rfl ?_
      refine lst_move rfl rfl ?_
      refine lst_lit (vs := [(0, _)]) rfl rfl Tryd.underlying25 F.ti3 rfl rfl rfl ?_
      intro b34
      refine lst_as_rowN 1 1 rfl (by unfold maxLen; omega) (.head _) ?_
      refine lst_move rfl rfl ?_
      refine lst_move rfl rfl ?_
      refine lst_index_row (j := x) rfl rfl rfl Tryd.underlying49 F.ti25 rfl hx' rfl rfl ?_
      intro gA hgA
      refine lst_load_row (v := .slice s.A s.l.length s.c) rfl rfl F.one25 hgA (vals_get hs) ?_
      refine lst_append_opt (cells := ncell) rfl rfl rfl Tryd.underlying25 F.ti3 rfl rfl (fun _ => rfl) ncell_one hnil (fun a w ha => row_reads ha (cells := ncell) (size := 1) (e := 3) (c := s.c) (n := s.l.length) (fun _ => rfl) (by have hm : s.res ∈ Ls.map Sl.res := List.mem_map.2 ⟨s, hsm, rfl⟩; rw [← ints_flat]; simp [hm, ← show s.res = Res.row 3 1 s.A s.l.length s.c (ints s.l) from rfl]) rfl) rfl (by unfold maxLen; omega) (by omega) ?_
      intro An cn
      refine lst_lit (vs := [(0, _)]) rfl rfl Tryd.underlying49 F.ti25 rfl rfl rfl ?_
      intro b40
      refine lst_append rfl rfl rfl Tryd.underlying49 F.ti25 rfl rfl rfl (by unfold maxLen; omega) (by omega) ?_
      intro A4 c4
      refine lst_assign rfl rfl ?_
      refine lst_nil ?_
      refine ex_block_normal ?_
      refine ex_then ?_
      refine cod_region ?_
      refine lst_move rfl rfl ?_
      refine lst_int rfl rfl rfl (fun w => bin_add w (wrap_i64' _ (by omega) (by omega))) ?_
      refine lst_assign rfl rfl ?_
      refine lst_nil ?_
      have hml : (Ns ++ [(⟨An, cn, i :: s.l⟩ : Sl)]).length = Ns.length + 1 := by simp
      have hmv : (Ns ++ [(⟨An, cn, i :: s.l⟩ : Sl)]).map Sl.val = Ns.map Sl.val ++ [.slice An (1 + s.l.length) cn] := by simp [Sl.val, Nat.add_comm]
      have hsr : (⟨An, cn, i :: s.l⟩ : Sl).res = .row 3 1 An (1 + s.l.length) cn ([.int .i64 (i : Int)] ++ s.l.flatMap ncell) := by rw [← ints_flat]; simp [Sl.res, ints, Nat.add_comm]
      refine ex_round' (x + 1, A4, c4, Ns ++ [(⟨An, cn, i :: s.l⟩ : Sl)]) ⟨by omega, by rw [List.map_append, hN.2.1, List.take_add_one, hsx]; simp, by rw [hml]; dsimp only; omega⟩ (by (try dsimp only); omega) (by dsimp only; rw [hml]; repeat (first | exact Sub.nil _ | refine Sub.cons rfl ?_)) (by dsimp only; rw [hml, hmv]; repeat (first | exact Pck.nil _ | exact Pck.refl _ | exact Pck.suffix _ _ | exact Pck.snoc2 hsr _ _ | (apply Pck.cons; focus ((repeat (first | exact Rem.here _ | apply Rem.there)); done)) | refine Pck.skip _ ?_))
    · skip
      obtain rfl : x = Ls.length := by omega
      have hMs : Ns.map Sl.l = chsT n k f (i + 1) := by rw [chsT_succ hI.1, hN.2.1, List.take_of_length_le (by omega)]
      refine cod_exit ?_
      refine ex_then_exit ?_
      refine ex_then_exit ?_
      refine ex_block_exit ?_
      refine ex_block_normal ?_
      refine ex_then ?_
      refine cod_region ?_
      refine lst_move rfl rfl ?_
      refine lst_int rfl rfl rfl (fun w => bin_add w (wrap_i64' _ (by omega) (by omega))) ?_
      refine lst_assign rfl rfl ?_
      refine lst_nil ?_
      refine ex_round' (i + 1, A3, c3, Ns) ⟨by omega, by have := Nat.le_max_right f n; omega, hMs⟩ (by (try dsimp only); omega) (by (try dsimp only); repeat (first | exact Sub.nil _ | refine Sub.cons rfl ?_)) (by (try dsimp only); exact Pck.cons (.here _) (Pck.skip _ (Pck.pre _ _)))
  · skip
    refine cod_exit ?_
    refine ex_then_exit ?_
    refine ex_then_exit ?_
    refine ex_block_exit ?_
    refine ex_then ?_
    refine cod_seq ?_
    refine cod_region ?_
    refine lst_move rfl rfl ?_
    refine lst_assign rfl rfl ?_
    refine lst_nil ?_
    refine ex_then ?_
    refine cod_ret ?_
    exact ex_ret rfl (fun a w ha => res_one rfl rfl ha) (fun a w ha => ⟨Ms, A2, c2, by rw [← chsT_end (i := i) (by omega)]; exact hI.2.2, rfl, ha.grown (by rw [List.append_nil]; exact List.Sublist.refl _)⟩)

theorem choose_c (n : Nat) (hn : n ≤ 4) : ∀ (k : Nat), k ≤ 5 → ∀ (f : Nat) (w : World), f ≤ 5 → Calls Tryd.prog 111 #[.int .i64 (f : Int), .int .i64 (n : Int), .int .i64 (k : Int)] w (fun e w' => ∃ (Ls : List Sl) (A : Option Addr) (c : Nat), Ls.map Sl.l = chsL n (k) (f) ∧ e = .returned (.slice A Ls.length c) ∧ Grew w w' (.row 25 1 A Ls.length c (Ls.map Sl.val) :: Ls.map Sl.res))
  | 0, _, f, w, _ => choose_0 n f w
  | k + 1, hk, f, w, hf => choose_s n f k hn hf hk (fun f w hf => choose_c n hn k (by omega) f w hf) w
end Go.Proofs.YtofkhehcnfiopaaDoor.N
namespace Go.Proofs.YtofkhehcnfiopaaDoor.N
open Go Go.RowKit Go.Proofs
def onlyL (ags : List Ag) (l : List Nat) : List Ag := l.map fun i => ags.getD i default
theorem onlyL_len (ags : List Ag) (l : List Nat) : (onlyL ags l).length = l.length := List.length_map ..
theorem onlyL_ok {ags : List Ag} (hok : Oks ags) {l : List Nat} (hl : l.length ≤ 4) (h : ∀ i ∈ l, i < ags.length) : Oks (onlyL ags l) :=
  ⟨by rw [onlyL_len]; exact hl, fun x hx => by
    obtain ⟨i, hi, rfl⟩ := List.mem_map.1 hx
    exact agd_ok hok (h i hi)⟩
/-- Some agents that do as much as all. -/
def asAll (ags : List Ag) (p : Nat) (l : List Nat) : Prop := ∀ m, m < 64 → (Clr (onlyL ags l) (usedAll (onlyL ags l).length) p m ↔ Clr ags (usedAll ags.length) p m)
structure SeenC (n : Nat) (P : List Nat → Prop) (k i : Nat) : Prop where
  less : ∀ j u, j < k → u ∈ chsL n j 0 → ¬ P u
  now : ∀ j u, j < i → (chsL n k 0)[j]? = some u → ¬ P u
theorem SeenC.start {n : Nat} {P : List Nat → Prop} : SeenC n P 0 0 := ⟨fun _ _ h => absurd h (Nat.not_lt_zero _), fun _ _ h => absurd h (Nat.not_lt_zero _)⟩
theorem SeenC.next {n k i : Nat} {P : List Nat → Prop} (h : SeenC n P k i) {v : List Nat} (hv : (chsL n k 0)[i]? = some v) (hp : ¬ P v) : SeenC n P k (i + 1) :=
  ⟨h.less, fun j u hj hu => by
    rcases Nat.lt_succ_iff_lt_or_eq.1 hj with h1 | rfl
    · exact h.now j u h1 hu
    · rw [hv] at hu
      cases hu
      exact hp⟩
theorem SeenC.round {n k i : Nat} {P : List Nat → Prop} (h : SeenC n P k i) (hi : (chsL n k 0).length ≤ i) : SeenC n P (k + 1) 0 :=
  ⟨fun j u hj hu => by
    rcases Nat.lt_succ_iff_lt_or_eq.1 hj with h1 | rfl
    · exact h.less j u h1 hu
    · obtain ⟨x, hx⟩ := List.getElem?_of_mem hu
      exact h.now x u (Nat.lt_of_lt_of_le (List.getElem?_eq_some_iff.1 hx).1 hi) hx, fun _ _ h => absurd h (Nat.not_lt_zero _)⟩
/-- The first list that does it, the shorter ones first. -/
def FewS (n : Nat) (P : List Nat → Prop) (W : List Nat) : Prop := ∃ k i, (chsL n k 0)[i]? = some W ∧ P W ∧ SeenC n P k i
theorem FewS.unique {n : Nat} {P : List Nat → Prop} {W V : List Nat} (h : FewS n P W) (h' : FewS n P V) : W = V := by
  obtain ⟨k, i, h1, h2, h3⟩ := h
  obtain ⟨k', i', h1', h2', h3'⟩ := h'
  rcases Nat.lt_trichotomy k k' with hk | rfl | hk
  · exact absurd h2 (h3'.less k W hk (List.mem_of_getElem? h1))
  · rcases Nat.lt_trichotomy i i' with hi | rfl | hi
    · exact absurd h2 (h3'.now i W hi h1)
    · rw [h1] at h1'
      exact Option.some.inj h1'
    · exact absurd h2' (h3.now i' V hi h1')
  · exact absurd h2' (h3.less k' V hk (List.mem_of_getElem? h1'))
theorem chs_short {n : Nat} : ∀ (k f : Nat), n < f + (k + 1) → chsL n (k + 1) f = []
  | 0, f, h => by
    unfold chsL
    rw [show n - f = 0 by omega]
    rfl
  | k + 1, f, h => by
    unfold chsL
    refine List.flatMap_eq_nil_iff.2 fun i hi => ?_
    have hr := List.mem_range'_1.1 hi
    rw [chs_short k (i + 1) (by omega)]
    rfl
/-- All agents. -/
theorem chs_all (n : Nat) : ∀ (k f : Nat), f + k = n → chsL n k f = [List.range' f k]
  | 0, f, _ => rfl
  | k + 1, f, h => by
    unfold chsL
    have e : List.range' f (n - f) = f :: List.range' (f + 1) k := by rw [show n - f = k + 1 by omega, List.range'_succ]
    rw [e, List.flatMap_cons, chs_all n k (f + 1) (by omega), List.map_cons, List.map_nil]
    have e2 : ((List.range' (f + 1) k).flatMap fun i => (chsL n k (i + 1)).map (i :: ·)) = [] := by
      refine List.flatMap_eq_nil_iff.2 fun i hi => ?_
      have hr := List.mem_range'_1.1 hi
      cases k with
      | zero => omega
      | succ k => rw [chs_short k (i + 1) (by omega)]; rfl
    rw [e2]
    rfl
theorem asAll_all {ags : List Ag} {p : Nat} : asAll ags p (List.range' 0 ags.length) := by
  have e : onlyL ags (List.range' 0 ags.length) = ags := by
    unfold onlyL
    apply List.ext_getElem?
    intro i
    rw [List.getElem?_map]
    by_cases hi : i < ags.length
    · rw [List.getElem?_range' hi, List.getElem?_eq_getElem hi]
      simp [List.getD_eq_getElem?_getD, hi]
    · rw [List.getElem?_eq_none (by simp; omega), List.getElem?_eq_none (by omega)]
      rfl
  intro m _
  rw [e]
end Go.Proofs.YtofkhehcnfiopaaDoor.N
namespace Go.Proofs.YtofkhehcnfiopaaDoor.N
open Go Go.RowKit Go.Proofs
/-- A set of agents as a number. -/
def maskL (l : List Nat) : Nat := l.foldl (fun s i => s ||| (1 <<< i)) 0
theorem maskL_snoc (l : List Nat) (i : Nat) : maskL (l ++ [i]) = maskL l ||| (1 <<< i) := by unfold maskL; rw [List.foldl_append]; rfl
theorem mask_bit : ∀ (l : List Nat) (s j : Nat), (l.foldl (fun s i => s ||| (1 <<< i)) s).testBit j = (s.testBit j || decide (j ∈ l))
  | [], s, j => by simp
  | i :: l, s, j => by
    rw [List.foldl_cons, mask_bit l _ j, Nat.testBit_or]
    have h : (1 <<< i).testBit j = decide (i = j) := by rw [Nat.one_shiftLeft, Nat.testBit_two_pow]
    rw [h]
    by_cases h1 : i = j
    · subst h1; simp
    · have h2 : ¬ j = i := fun e => h1 e.symm
      simp [h1, h2]
theorem maskL_bit (l : List Nat) (j : Nat) : (maskL l).testBit j = decide (j ∈ l) := by unfold maskL; rw [mask_bit]; simp
theorem maskL_lt {l : List Nat} {n : Nat} (h : ∀ i ∈ l, i < n) : maskL l < 2 ^ n := by
  have key : ∀ (l : List Nat) (s : Nat), (∀ i ∈ l, i < n) → s < 2 ^ n → l.foldl (fun s i => s ||| (1 <<< i)) s < 2 ^ n := by
    intro l
    induction l with
    | nil => intro s _ hs; exact hs
    | cons i l ih =>
      intro s hl hs
      rw [List.foldl_cons]
      refine ih _ (fun j hj => hl j (by simp [hj])) (Nat.or_lt_two_pow hs ?_)
      rw [Nat.one_shiftLeft]
      exact Nat.pow_lt_pow_right (by omega) (hl i (by simp))
  exact key l 0 h (Nat.two_pow_pos n)
theorem maskL_lt16 {l : List Nat} (h : ∀ i ∈ l, i < 4) : maskL l < 16 := maskL_lt (n := 4) h
/-- An ascending list is what its set is read out as. -/
theorem chs_sorted {n : Nat} : ∀ {k f : Nat} {x : List Nat}, x ∈ chsL n k f → x.Pairwise (· < ·)
  | 0, f, x, h => by
    obtain rfl : x = [] := by simpa [chsL] using h
    exact .nil
  | k + 1, f, x, h => by
    obtain ⟨i, hi, h2⟩ := List.mem_flatMap.1 h
    obtain ⟨y, hy, rfl⟩ := List.mem_map.1 h2
    exact .cons (fun j hj => by have := (chs_mem hy).2 j hj; omega) (chs_sorted hy)
/-- What has been read out so far. -/
def outL (l : List Nat) (k : Nat) : List Nat := (List.range k).filter fun i => decide (i ∈ l)
theorem outL_yes {l : List Nat} {k : Nat} (h : k ∈ l) : outL l (k + 1) = outL l k ++ [k] := by
  unfold outL
  rw [List.range_succ, List.filter_append]
  simp [h]
theorem outL_no {l : List Nat} {k : Nat} (h : k ∉ l) : outL l (k + 1) = outL l k := by
  unfold outL
  rw [List.range_succ, List.filter_append]
  simp [h]
theorem outL_len (l : List Nat) (k : Nat) : (outL l k).length ≤ k := by
  unfold outL
  exact Nat.le_trans (List.length_filter_le _ _) (by simp)
theorem sorted_ext : ∀ {x y : List Nat}, x.Pairwise (· < ·) → y.Pairwise (· < ·) → (∀ i, i ∈ x ↔ i ∈ y) → x = y
  | [], [], _, _, _ => rfl
  | [], b :: y, _, _, h => absurd ((h b).2 (by simp)) (by simp)
  | a :: x, [], _, _, h => absurd ((h a).1 (by simp)) (by simp)
  | a :: x, b :: y, hx, hy, h => by
    have hx1 := List.pairwise_cons.1 hx
    have hy1 := List.pairwise_cons.1 hy
    obtain rfl : a = b := by
      rcases List.mem_cons.1 ((h a).1 (by simp)) with h1 | h1
      · exact h1
      · have h2 := hy1.1 a h1
        rcases List.mem_cons.1 ((h b).2 (by simp)) with h3 | h3
        · omega
        · have := hx1.1 b h3
          omega
    congr 1
    refine sorted_ext hx1.2 hy1.2 fun i => ?_
    constructor
    · intro hi
      rcases List.mem_cons.1 ((h i).1 (by simp [hi])) with h1 | h1
      · have := hx1.1 i hi; omega
      · exact h1
    · intro hi
      rcases List.mem_cons.1 ((h i).2 (by simp [hi])) with h1 | h1
      · have := hy1.1 i hi; omega
      · exact h1
theorem range_sorted (n : Nat) : (List.range n).Pairwise (· < ·) := by
  rw [List.range_eq_range']
  exact List.pairwise_lt_range'
theorem outL_all {l : List Nat} {n : Nat} (hs : l.Pairwise (· < ·)) (h : ∀ i ∈ l, i < n) : outL l n = l :=
  sorted_ext ((range_sorted n).filter _) hs fun i => by
    unfold outL
    rw [List.mem_filter, List.mem_range]
    exact ⟨fun hi => by simpa using hi.2, fun hi => ⟨h i hi, by simpa using hi⟩⟩
/-- With some agents alone. -/
theorem only_clr {ags : List Ag} {l : List Nat} {p f : Nat} (h : ∀ i ∈ l, i < ags.length) : Clr (onlyL ags l) (usedAll (onlyL ags l).length) p f ↔ Clr ags (maskL l) p f := by
  have hus : ∀ x, Us ags (maskL l) x ↔ x ∈ onlyL ags l := by
    intro x
    constructor
    · rintro ⟨i, h1, h2, rfl⟩
      rw [maskL_bit] at h2
      exact List.mem_map.2 ⟨i, of_decide_eq_true h2, rfl⟩
    · intro hx
      obtain ⟨i, hi, rfl⟩ := List.mem_map.1 hx
      exact ⟨i, h i hi, by rw [maskL_bit]; exact decide_eq_true hi, rfl⟩
  constructor
  · exact Clr.mono (fun x hx => (hus x).2 (us_all.1 hx)) (fun _ h => h)
  · exact Clr.mono (fun x hx => us_all.2 ((hus x).1 hx)) (fun _ h => h)
theorem sets_eq {ags : List Ag} {l : List Nat} {p n m : Nat} (h : ∀ i ∈ l, i < ags.length) (hn : SetN n (Clr ags (maskL l) p)) (hm : SetN m (Clr ags (usedAll ags.length) p)) : (n : Int) = (m : Int) ↔ asAll ags p l := by
  constructor
  · intro e f hf
    have e' : n = m := by omega
    subst e'
    rw [only_clr h, ← hn.2 f hf, ← hm.2 f hf]
  · intro ha
    have : SetN n (Clr ags (usedAll ags.length) p) := ⟨hn.1, fun f hf => by rw [hn.2 f hf, ← only_clr h]; exact ha f hf⟩
    have := this.eq hm
    omega
end Go.Proofs.YtofkhehcnfiopaaDoor.N
namespace Go.Proofs.YtofkhehcnfiopaaDoor.N
open Go Go.RowKit Go.Proofs

/-! A range over a function. -/
section
variable {C : Ctx} {fr : List (Nat × Value)} {hp hp' : List Res} {a : Act} {w : World} {ops : Array Oper} {Q : Exit → Act → World → Prop} {rest : List Oper}
  {d : Nat} {ty : TypeId} {pos : String} {after : Array Edge} {r : Nat}

/-- A piece of code in a round's frame. -/
def CodR (C : Ctx) (r : Nat) (c : Code) (Q : Exit → Act → World → Prop) (fr : List (Nat × Value)) (hp : List Res) : Prop :=
  ∀ a w, At C fr hp a w → c.wpIn (Fence.wide.inRound r) 0 C.P Q a w
theorem room_round (r n : Nat) : (Fence.wide.inRound r).room n := fun _ h => by simp [Fence.wide] at h
theorem callsIn_round {n : Nat} {P : Program} {f : FuncId} {args : Array Value} {w : World} {R : Ending → World → Prop} (h : Calls P f args w R) : CallsIn (Fence.wide.inRound r) n P f args w R :=
  (callsIn_wide.2 h : CallsIn Fence.wide n P f args w R)
theorem rowsIn_wide {F : Fence} (hF : ∀ m m' P, Steps P m m' → StepsIn (Machine.fenced P F) P m m') {n : Nat} {P : Program} {row : String} {args : Array Value} {w : World} {R : Value → World → Prop} (h : Rows P row args w R) : RowsIn F n P row args w R :=
  fun c cs _ => let ⟨v, w', h1, h2⟩ := h c cs; ⟨v, w', h1, hF _ _ _ h2⟩
theorem steps_round {r : Nat} (m m' : Machine) (P : Program) (h : Steps P m m') : StepsIn (Machine.fenced P (Fence.wide.inRound r)) P m m' := (stepsIn_wide.2 h : StepsIn (Machine.fenced P Fence.wide) P m m')
theorem listR {P : Program} {ops : Array Oper} {Q : Exit → Act → World → Prop} (hQ : ∀ a w, Q .outgrown a w → False) : ∀ (l : List Oper), (l.all fun o => match o.op with | .defer _ => false | _ => true) = true → ∀ (a : Act) (w : World), wpList P ops Q l a w → wpListIn (Fence.wide.inRound r) 0 P ops Q l a w
  | [], _, a, w, h => h
  | o :: l, hl, a, w, h => by
    simp only [List.all_cons, Bool.and_eq_true] at hl
    have ih := listR (P := P) (ops := ops) (Q := Q) hQ l hl.2
    have hno : ∀ c, o.op ≠ .defer c := by
      intro c hc
      have := hl.1
      rw [hc] at this
      cases this
    simp only [wpList, wpListIn] at h ⊢
    split at h
    · rename_i hw
      rw [if_pos hw]
      rcases h with h | ⟨_, a', w', h⟩
      · refine ⟨fun _ _ => trivial, ?_⟩
        rw [show (Fence.wide.inRound r).round = some r from rfl, Oper.semAt_some r _ _ hno]
        unfold Oper.wp at h
        generalize (execOp a.eval o).run P w = x at h ⊢
        match x, h with
        | .ok (.value v) w', h => exact ih _ _ h
        | .ok .skip w', h => exact ih _ _ h
        | .ok (.defer d) w', h => exact ih _ _ h
        | .ok (.enter f args) w', h =>
          refine ⟨fun hd => by simp [Fence.wide] at hd, (callsIn_round h).mono ?_⟩
          intro e w'' he
          cases e with
          | returned v => exact ih _ _ he
          | panicked ch => exact he
          | outgrown => exact he
        | .ok (.row row args) w', h => exact ⟨fun hd => by simp [Fence.wide] at hd, (rowsIn_wide steps_round h).mono fun v w'' he => ih _ _ he⟩
        | .halt (.panic v) w', h => exact h
      · exact (hQ a' w' h).elim
    · rename_i hw
      rw [if_neg hw]
      exact ⟨fun _ _ => trivial, ih _ _ h⟩
theorem codR_region {id : Nat} {l : List Oper} (hQ : ∀ a w, Q .outgrown a w → False) (hl : (l.all fun o => match o.op with | .defer _ => false | _ => true) = true) (h : Lst C l.toArray Q l fr hp) : CodR C r (.region id l.toArray false) Q fr hp :=
  fun a w ha => wpIn_region_lit (listR hQ l hl a w (h a w ha))
theorem codR_seq {x y : Code} (h : CodR C r x (Exit.then (y.wpIn (Fence.wide.inRound r) 0 C.P Q) Q) fr hp) : CodR C r (x.seq y) Q fr hp := fun a w ha => wpIn_seq (h a w ha)
theorem exR_then {y : Code} (h : CodR C r y Q fr hp) : Ex C (Exit.then (y.wpIn (Fence.wide.inRound r) 0 C.P Q) Q) .normal fr hp := h
theorem codR_skip (h : Ex C Q .normal fr hp) : CodR C r .skip Q fr hp := fun a w ha => wpIn_skip (h a w ha)
theorem codR_exit {i : Nat} (h : Ex C Q (.exit i) fr hp) : CodR C r (.exit i) Q fr hp := fun a w ha => wpIn_exit (h a w ha)
theorem codR_ret (h : Ex C Q .ret fr hp) : CodR C r .ret Q fr hp := fun a w ha => wpIn_ret (h a w ha)
theorem codR_block {i : Nat} {c : Code} (h : CodR C r c (Exit.inBlock i Q) fr hp) : CodR C r (.block i c) Q fr hp := fun a w ha => wpIn_block (h a w ha)
theorem codR_cond_true {c : Operand} {x y : Code} (hc : ev fr c = some (.bool true)) (h : CodR C r x Q fr hp) : CodR C r (.cond c x y) Q fr hp := fun a w ha => wpIn_cond_true (ha.eval hc) (h a w ha)
theorem codR_cond_false {c : Operand} {x y : Code} (hc : ev fr c = some (.bool false)) (h : CodR C r y Q fr hp) : CodR C r (.cond c x y) Q fr hp := fun a w ha => wpIn_cond_false (ha.eval hc) (h a w ha)
theorem codR_cond_bool {c : Operand} {x y : Code} {b : Bool} (hc : ev fr c = some (.bool b)) (h : b = true → CodR C r x Q fr hp) (h' : b = false → CodR C r y Q fr hp) : CodR C r (.cond c x y) Q fr hp := by
  cases b with
  | true => exact codR_cond_true hc (h rfl)
  | false => exact codR_cond_false hc (h' rfl)
theorem codR_cond_dec {c : Operand} {x y : Code} {p : Prop} [Decidable p] (hc : ev fr c = some (.bool (decide p))) (h : p → CodR C r x Q fr hp) (h' : ¬p → CodR C r y Q fr hp) : CodR C r (.cond c x y) Q fr hp := by
  by_cases hp' : p
  · rw [decide_eq_true hp'] at hc; exact codR_cond_true hc (h hp')
  · rw [decide_eq_false hp'] at hc; exact codR_cond_false hc (h' hp')
theorem codR_loop' {G : Type} {c : Code} (p : G → Prop) (μ : G → Nat) (f : G → List (Nat × Value)) (h : G → List Res) (g0 : G) (h0 : p g0) (hs : Sub (f g0) fr) (hh : Pck (h g0) hp)
    (round : ∀ g, p g → CodR C r c (Exit.then (Rnd C p μ f h g) Q) (f g) (h g)) : CodR C r (.loop c) Q fr hp := by
  intro a w ha
  have key : ∀ (n : Nat) (b : Frame) (k : List Item) (cs : List Frame) (g : G), b.roundOf = (Fence.wide.inRound r).round → μ g = n → p g → ∀ a w, At C (f g) (h g) a w →
      ∃ e a' w', Q e a' w' ∧ ArrivesIn (Machine.fenced C.P (Fence.wide.inRound r)) C.P (lone (b.atR a (.code c :: .inLoop c :: k)) cs w) b k cs e a' w' := by
    intro n b k cs
    induction n using Nat.strongRecOn with
    | _ n ih =>
      intro g hb hn hpg a w ha
      obtain ⟨e, a₁, w₁, hq, harr⟩ := round g hpg a w ha b (.inLoop c :: k) cs hb trivial (room_round r _)
      cases e with
      | normal =>
        obtain ⟨g', hp', hlt, ha'⟩ := hq
        obtain ⟨e₂, a₂, w₂, hq₂, harr₂⟩ := ih _ (by omega) g' hb rfl hp' a₁ w₁ ha'
        exact ⟨e₂, a₂, w₂, hq₂, .of_steps (StepsIn.trans harr (.one (fenced_calm (n := 0) trivial (room_round r _) rfl) stepR_inLoop)) harr₂⟩
      | exit id => exact ⟨_, a₁, w₁, hq, .pass (x := .inLoop c) rfl (fun _ _ => .inl (by simp)) harr⟩
      | goto l => exact ⟨_, a₁, w₁, hq, .pass (x := .inLoop c) rfl (fun _ _ => .inl (by simp)) harr⟩
      | ret => exact ⟨_, a₁, w₁, hq, .pass (x := .inLoop c) rfl (fun _ _ => .inl (by simp)) harr⟩
      | panic ch => exact ⟨_, a₁, w₁, hq, .pass (x := .inLoop c) rfl (fun _ _ => .inl (by simp)) harr⟩
      | outgrown => exact ⟨_, a₁, w₁, hq, .pass (x := .inLoop c) rfl (fun _ _ => .inl (by simp)) harr⟩
  intro b k cs hb _ _
  obtain ⟨e, a', w', hq, harr⟩ := key _ b k cs g0 hb rfl h0 a w ((ha.drop_slots hs).pck hh)
  exact ⟨e, a', w', hq, .of_steps (.one (fenced_calm (n := 0) trivial (room_round r _) rfl) stepR_loop) harr⟩

/-- A walk on its own ground goes on upon the wider one. -/
theorem codR_widen {C' : Ctx} {fr0 : List (Nat × Value)} {hp0 : List Res} {a0 : Act} {c : Code} {w1 : World} (h0 : At C fr0 hp0 a0 w1) (hP : C'.P = C.P) (hw : C'.w0 = w1) (hB : C'.B = w1.heap.size) (hN : C'.N = C.N) (hds : C'.ds = C.ds)
    (h : CodR C r c Q fr (hp ++ hp0)) : CodR C' r c Q fr hp := by
  obtain ⟨P, B, w0, N, ds⟩ := C'
  simp only at hP hw hB hN hds
  subst hP; subst hw; subst hB; subst hN; subst hds
  intro a w ha
  have hg := h0.grew (w' := w) ha.below (rs := hp) (fun r hr => ha.own r hr) ha.apart
  exact h a w ⟨ha.size, ha.defs, ha.slots, hg.below, hg.base, hg.own, hg.apart⟩

theorem enter_marks {P : Program} {f : FuncId} {fn : Func} {c : Code} {vs : List Value} {w : World} {R : Ending → World → Prop} {N : Nat} (fr : List (Nat × Value))
    (hf : P.funcs[f]? = some fn) (hb : fn.body = some c) (hN : fn.ntmps = N) (hle : Nat.ble vs.length N = true) (hfr : idx 0 vs = fr)
    (h : Cod ⟨P, w.heap.size, w, N, []⟩ c (bodyPostM Fence.wide 0 P fn R) fr []) : Calls P f vs.toArray w R := by
  refine callsIn_wide.1 (callsIn_of_wp_marks hf hb trivial (wpIn_wide.2 (h _ _ ⟨?_, rfl, ?_, Below.refl _ _, Nat.le_refl _, (fun r hr => by cases hr), List.nodup_nil⟩)) : CallsIn Fence.wide 0 P f vs.toArray w R)
  · have : vs.length ≤ N := by simpa [Nat.ble_eq] using hle
    simp [hN]; omega
  · intro t v ht
    rw [← hfr] at ht
    obtain ⟨j, rfl, hj⟩ := look_idx vs 0 t v ht
    have hjl : j < vs.length := by
      rcases Nat.lt_or_ge j vs.length with h1 | h1
      · exact h1
      · rw [List.getElem?_eq_none h1] at hj; cases hj
    simp only [Nat.zero_add, Array.getD_eq_getD_getElem?]
    rw [Array.getElem?_append_left (by simpa using hjl)]
    simp [hj]
end
end Go.Proofs.YtofkhehcnfiopaaDoor.N
namespace Go.Proofs.YtofkhehcnfiopaaDoor.N
open Go Go.RowKit Go.Proofs
section
variable {C : Ctx} {fr : List (Nat × Value)} {hp hp' hpT : List Res} {a : Act} {w : World} {ops : Array Oper} {Q : Exit → Act → World → Prop} {rest : List Oper}
  {d : Nat} {ty : TypeId} {pos : String} {after : Array Edge} {r : Nat} {S : World → Prop} {fuel : Nat} {listed listed' : Array Bool}

/-- The same slots, on ground of its own. -/
abbrev Ctx.here (C : Ctx) (w : World) : Ctx := ⟨C.P, w.heap.size, w, C.N, C.ds⟩
theorem At.fresh (ha : At C fr hp a w) : At (C.here w) fr [] a w := ⟨ha.size, ha.defs, ha.slots, Below.refl _ _, Nat.le_refl _, (fun r hr => by cases hr), List.nodup_nil⟩
/-! A call that comes back in one of two ways. -/
theorem lst_call_two {x : Operand} {f : FuncId} {first cap vs : List Value} {args : Array Operand} {ts : Array TypeId} {vT vF : Value} {M : World → Prop} (pT : Prop) (hd : Nat.blt d C.N = true)
    (hx : ev fr x = some (.func (.func f) first.toArray cap.toArray)) (hargs : args.toList.map (ev fr) = vs.map some) (hf : Enters C.P f)
    (hc : ∀ a w, At C fr hp a w → Calls C.P f (first ++ vs ++ cap).toArray w fun e w' => (e = .returned vT ∧ pT ∧ At C fr hpT a w') ∨ (e = .returned vF ∧ M w'))
    (kT : pT → Lst C ops Q rest ((d, vT) :: fr) hpT) (kF : ∀ w', M w' → Lst (C.here w') ops Q rest ((d, vF) :: fr) []) :
    Lst C ops Q (⟨some d, .call { callee := .value x, args := args, argTypes := ts }, ty, pos, after, none⟩ :: rest) fr hp := by
  intro a w ha
  refine wpList_plain rfl fun K hK => ?_
  unfold Oper.wp
  have hr : (execOp a.eval ⟨some d, .call { callee := .value x, args := args, argTypes := ts }, ty, pos, after, none⟩).run C.P w = .ok (.enter f (first ++ vs ++ cap).toArray) w := by
    simp only [execOp, resolve, ev_args ha hargs, ha.eval hx, Deferred.ofValue, Sem.run_bind, Sem.run_pure, Result.andThen_ok, invoke, List.append_toArray]
    exact hf _ w
  rw [hr]
  show Calls C.P f _ w _
  refine (hc a w ha).mono ?_
  rintro e w' (⟨rfl, h1, h2⟩ | ⟨rfl, h2⟩)
  · exact hK _ _ (kT h1 _ _ (h2.put (lt_of_blt hd) _))
  · have h3 : At (C.here w') fr [] a w' := ⟨ha.size, ha.defs, ha.slots, Below.refl _ _, Nat.le_refl _, (fun r hr => by cases hr), List.nodup_nil⟩
    exact hK _ _ (kF w' h2 _ _ (h3.put (lt_of_blt hd) _))

/-! Drawn regions under a condition of one's own. -/
def AnyG (C : Ctx) (ops : Array Oper) (Q : Exit → Act → World → Prop) (S : World → Prop) (fuel : Nat) (listed : Array Bool) (fr : List (Nat × Value)) (hp : List Res) : Prop :=
  ∀ a w, At C fr hp a w → S w → wpAnyH C.P .any ops (OnlyN Q) S fuel listed a w
theorem anyG_start {id : Nat} {l : List Oper} (S : World → Prop) (hm : C.P.follows .mixedOrders = true) (n : Nat) (hn : l.length = n) (lst : List Bool) (hl : Array.replicate n false = lst.toArray) (hS : ∀ a w, At C fr hp a w → S w)
    (h : AnyG C l.toArray Q S n lst.toArray fr hp) : Cod C (.region id l.toArray true) Q fr hp := by
  intro a w ha
  refine wp_mono (Q := OnlyN Q) (wp_region_held (S := S) hm ?_) ?_
  · have h1 := h a _ ha.drew (hS _ _ ha.drew)
    rw [← hl] at h1
    simpa [hn] using h1
  · intro e a' w' he
    cases e with
    | normal => exact he
    | _ => exact he.elim
theorem anyG_done {rs : List Nat} (hr : Region.ready .any ops listed = rs) (h0 : rs = []) (h : Ex C Q .normal fr hp) : AnyG C ops Q S fuel listed fr hp :=
  fun a w ha _ => wpAnyH_done (hr.trans h0) (show OnlyN Q .normal a w from h a w ha) fuel
theorem anyG_take {o : Oper} {v : Value} (i : Nat) (hi : ops[i]? = some o) (hdst : o.dst = some d) (hd : Nat.blt d C.N = true) (hns : Region.noSelect ops = true) (hf : Region.free .any ops listed i = true) (hr : (Region.ready .any ops listed).contains i = true)
    (y : ∀ w, S w → Yld (C.here w) o fr [] v) (hl : listed.setIfInBounds i true = listed') (k : AnyG C ops Q S fuel listed' ((d, v) :: fr) hp) : AnyG C ops Q S (fuel + 1) listed fr hp := by
  intro a w ha hS
  refine wpAnyH_take hi hns hf hr (fun c a w h => h.elim) (.inl ⟨?_, fun w' hw' => (y w' hw').2 a w' ?_⟩) hS ?_
  · unfold Region.wanted; rw [(y w hS).1]
  · exact ⟨ha.size, ha.defs, ha.slots, Below.refl _ _, Nat.le_refl _, (fun r hr => by cases hr), List.nodup_nil⟩
  · rw [hl, hdst]
    exact k _ _ (ha.put (lt_of_blt hd) v) hS
def NxtG (C : Ctx) (ops : Array Oper) (Q : Exit → Act → World → Prop) (S : World → Prop) (fuel : Nat) (listed : Array Bool) (a : Act) (w : World) : Prop :=
  S w ∧ wpAnyH C.P .any ops (OnlyN Q) S fuel listed a w
theorem anyG_one {o : Oper} (i : Nat) (hr : Region.ready .any ops listed = [i]) (hi : ops[i]? = some o) (hl : listed.setIfInBounds i true = listed') (h : Lst C ops (Exit.then (NxtG C ops Q S fuel listed') (OnlyN Q)) [o] fr hp) : AnyG C ops Q S (fuel + 1) listed fr hp := by
  intro a w ha _
  refine wpAnyH_all hr (by simp) ?_
  intro k hk
  simp at hk
  subst hk
  rw [hl]
  exact op_of_lst hi h ha
theorem exG_next {C' : Ctx} (hP : C'.P = C.P) (hS : ∀ a w, At C fr hp a w → S w) (h : AnyG C ops Q S fuel listed fr hp) : Ex C (Exit.then (NxtG C' ops Q S fuel listed) (OnlyN Q)) .normal fr hp :=
  fun a w ha => ⟨hS a w ha, by rw [hP]; exact h a w ha (hS a w ha)⟩

/-! A region in which yield is called. -/
def LstW (C : Ctx) (ops : Array Oper) (Q : Exit → Act → World → Prop) (l : List Oper) (fr : List (Nat × Value)) (hp : List Res) : Prop := ∀ a w, At C fr hp a w → wpListIn Fence.wide 0 C.P ops Q l a w
theorem cod_regionW {id : Nat} {l : List Oper} (h : LstW C l.toArray Q l fr hp) : Cod C (.region id l.toArray false) Q fr hp := fun a w ha => wpIn_wide.1 (wpIn_region_lit (h a w ha) : Code.wpIn Fence.wide 0 C.P _ Q a w)
theorem lstW_nil (k : Ex C Q .normal fr hp) : LstW C ops Q [] fr hp := fun a w ha => wpListIn_nil (k a w ha)
theorem lstW_yld {o : Oper} {v : Value} (hdst : o.dst = some d) (hd : Nat.blt d C.N = true) (y : Yld C o fr hp v) (k : LstW C ops Q rest ((d, v) :: fr) hp) : LstW C ops Q (o :: rest) fr hp := by
  intro a w ha
  refine wpListIn_plain y.1 fun K hK => ?_
  refine ⟨fun _ _ => trivial, ?_⟩
  rw [show Fence.wide.round = none from rfl, Oper.semAt_none, y.2 a w ha]
  show K (a.put o.dst v) w
  rw [hdst]
  exact hK _ _ (k _ _ (ha.put (lt_of_blt hd) _))
theorem lstW_yield {x : Operand} {vs : List Value} {args : Array Operand} {ts : Array TypeId} {M : World → Prop} (pT : Prop) (hd : Nat.blt d C.N = true)
    (hx : ev fr x = some (.func (.yield r) #[] #[])) (hargs : args.toList.map (ev fr) = vs.map some)
    (hc : ∀ a w, At C fr hp a w → YieldAt Fence.wide 0 C.P r vs.toArray w fun e w' => (e = .returned (.bool true) ∧ pT ∧ At C fr hpT a w') ∨ (e = .returned (.bool false) ∧ M w'))
    (kT : pT → LstW C ops Q rest ((d, .bool true) :: fr) hpT) (kF : ∀ w', M w' → LstW (C.here w') ops Q rest ((d, .bool false) :: fr) []) :
    LstW C ops Q (⟨some d, .call { callee := .value x, args := args, argTypes := ts }, ty, pos, after, none⟩ :: rest) fr hp := by
  intro a w ha
  refine wpListIn_plain rfl fun K hK => ?_
  refine ⟨fun _ _ => trivial, ?_⟩
  obtain ⟨fn, tmps, assign, body, hy, hR⟩ := hc a w ha
  have hr : (execOp a.eval ⟨some d, .call { callee := .value x, args := args, argTypes := ts }, ty, pos, after, none⟩).run C.P w = .ok (.round r fn tmps assign body) w := by
    simp only [execOp, resolve, ev_args ha hargs, ha.eval hx, Deferred.ofValue, Sem.run_bind, Sem.run_pure, Result.andThen_ok, invoke, List.append_toArray]
    simpa using hy
  rw [show Fence.wide.round = none from rfl, Oper.semAt_none, hr]
  refine ⟨fun hd => by simp [Fence.wide] at hd, hR.mono ?_⟩
  rintro e w' (⟨rfl, h1, h2⟩ | ⟨rfl, h2⟩)
  · exact hK _ _ (kT h1 _ _ (h2.put (lt_of_blt hd) _))
  · have h3 : At (C.here w') fr [] a w' := ⟨ha.size, ha.defs, ha.slots, Below.refl _ _, Nat.le_refl _, (fun r hr => by cases hr), List.nodup_nil⟩
    exact hK _ _ (kF w' h2 _ _ (h3.put (lt_of_blt hd) _))

/-! The statement. -/
/-- The record of a loop that has begun. -/
abbrev recOf (fn : FuncId) (a : Act) (ps : Array Tmp) (assign body : Code) (D : Nat) (st : LoopState) (pe : Option Code) : Loop := { state := st, pending := pe, fn, tmps := a.tmps, params := ps, assign, body, defers := D }
theorem cod_range {g : Operand} {ps : Array Tmp} {assign body : Code} {gf : FuncId} {lb : List Value} (hg : ev fr g = some (.func (.func gf) #[] lb.toArray)) (he : Enters C.P gf)
    (h : ∀ a w, At C fr hp a w → ∀ fn, Calls C.P gf (#[.func (.yield (w.heap.size + 1)) #[] #[]] ++ lb.toArray) ((w.alloc (.deferred (some []))).alloc (.loop (recOf fn a ps assign body w.heap.size .ready none))) fun e w3 =>
      (∃ v, e = .returned v) ∧ ∃ st pe, st ≠ .busy ∧ w3.heap[w.heap.size + 1]? = some (.loop (recOf fn a ps assign body w.heap.size st pe)) ∧
        (pe = none ∧ Q .normal { a with defers := { target := .collected w.heap.size, args := #[] } :: a.defers } (w3.putObj (w.heap.size + 1) (.loop (recOf fn a ps assign body w.heap.size .exhausted pe))) ∨
         pe = some .ret ∧ Q .ret { a with defers := { target := .collected w.heap.size, args := #[] } :: a.defers } (w3.putObj (w.heap.size + 1) (.loop (recOf fn a ps assign body w.heap.size .exhausted pe))))) :
    Cod C (.rangeFunc g ps assign body) Q fr hp := by
  intro a w ha
  refine wpIn_wide.1 (wpIn_rangeFunc ?_ : Code.wpIn Fence.wide 0 C.P _ Q a w)
  intro fn _
  obtain ⟨W1, hW1⟩ : ∃ W1, W1 = (w.alloc (.deferred (some []))).alloc (.loop (recOf fn a ps assign body w.heap.size .ready none)) := ⟨_, rfl⟩
  refine ⟨w.heap.size + 1, [{ target := .collected w.heap.size, args := #[] }], W1, { target := .fn (.func gf) lb.toArray, args := #[.func (.yield (w.heap.size + 1)) #[] #[]] }, W1, gf,
    #[.func (.yield (w.heap.size + 1)) #[] #[]] ++ lb.toArray, W1, ?_, ?_, fun _ _ => trivial, ?_, fun hd => by simp [Fence.wide] at hd, ?_⟩
  · rw [hW1]; exact run_enterLoop_outer fn a.tmps ps assign body
  · simp only [resolve, ha.eval hg]
    simp [go_sem]
  · simp only [invoke]
    have e : (callFunc gf (#[.func (.yield (w.heap.size + 1)) #[] #[]] ++ lb.toArray)).run C.P W1 = .ok (.enter gf (#[.func (.yield (w.heap.size + 1)) #[] #[]] ++ lb.toArray)) W1 := he _ _
    simpa using e
  · rw [hW1]
    refine callsIn_wide.2 ((h a w ha fn).mono ?_)
    rintro e w3 ⟨⟨v, rfl⟩, st, pe, hst, hl, hq⟩
    refine ⟨pe, _, run_endLoop hl hst, ?_⟩
    rcases hq with ⟨rfl, hq⟩ | ⟨rfl, hq⟩
    · exact hq
    · exact wpIn_ret hq
end
end Go.Proofs.YtofkhehcnfiopaaDoor.N
