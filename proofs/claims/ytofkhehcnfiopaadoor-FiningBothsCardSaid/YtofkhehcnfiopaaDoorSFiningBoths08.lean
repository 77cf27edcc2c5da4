/- Parts of the walks of the laws on fining, those that FiningBoths needs: F42, FolP, F43, TelP, F44, All3. -/
import Derived.Test.YtofkhehcnfiopaaDoorSFiningBoths07
import Derived.Test.YtofkhehcnfiopaaDoorProg
namespace Go.Proofs.YtofkhehcnfiopaaDoor.N
open Go Go.RowKit Go.Proofs

theorem Both_bad (A : Option Addr) (c : Nat) (l : List RA) (hn : checkR l ≠ 0) (mA : Option Addr) (ml mc : Nat) (p : Int) (w : World) (hA : RdL RA.cells 5 w A l) : Calls Tryd.prog 28 #[.slice A l.length c, .slice mA ml mc, .int .i64 p] w fun e w' => e = .returned (.tuple #[.slice none 0 0, .int .i64 ((checkR l : Nat) : Int)]) ∧ Grew w w' [] := by
  refine enter_defers (N := 48) [(0, .slice A l.length c), (1, .slice mA ml mc), (2, .int .i64 p)] Tryd.func28 rfl Tryd.ntmps28 rfl rfl ?_
  refine cod_seq ?_
  refine cod_region ?_
  refine lst_box rfl rfl ?_
  intro b4
  refine lst_assign rfl rfl ?_
  refine lst_alloc rfl F.ti35 ?_
  intro b7
  refine lst_nil ?_
  refine ex_then ?_
  refine cod_seq ?_
  refine cod_region ?_
  refine lst_defer (first := []) (cap := []) (vs := [_]) rfl rfl ?_
  refine lst_nil ?_
  refine ex_then ?_
  refine cod_seq ?_
  refine cod_region ?_
  refine lst_move rfl rfl ?_
  refine lst_fn_panics (vs := [_]) rfl F.ent75 (fun a w ha => begin_bad A c l hn w (hA.later ha.below)) ?_
  refine ex_then_panic ?_
  exact ex_panic_caught (fun a w ha => ⟨_, res_tc (fn := Tryd.f28) ha rfl rfl rfl F.one35, rfl, ha.grown (by repeat (first | exact List.Sublist.refl _ | exact List.nil_sublist _ | refine List.Sublist.cons_cons _ ?_ | refine List.Sublist.cons _ ?_))⟩)

theorem Both_e7 (A : Option Addr) (c : Nat) (ags : List Ag) (hok : Oks ags) (mA : Option Addr) (mc : Nat) (ms : List Int) (p : Int) (h0 : ms.length = 0) (w : World) (hA : RdL Ag.cells 5 w A ags) : Calls Tryd.prog 28 #[.slice A ags.length c, .slice mA ms.length mc, .int .i64 p] w fun e w' => e = .returned (.tuple #[.slice none 0 0, .int .i64 7]) ∧ Grew w w' [] := by
  have hua : usedAll ags.length < 256 := by have := usedAll_lt hok.1; omega
  refine enter_defers (N := 48) [(0, .slice A ags.length c), (1, .slice mA ms.length mc), (2, .int .i64 p)] Tryd.func28 rfl Tryd.ntmps28 rfl rfl ?_
  refine cod_seq ?_
  refine cod_region ?_
  refine lst_box rfl rfl ?_
  intro b4
  refine lst_assign rfl rfl ?_
  refine lst_alloc rfl F.ti35 ?_
  intro b7
  refine lst_nil ?_
  refine ex_then ?_
  refine cod_seq ?_
  refine cod_region ?_
  refine lst_defer (first := []) (cap := []) (vs := [_]) rfl rfl ?_
  refine lst_nil ?_
  refine ex_then ?_
  refine cod_seq ?_
  refine cod_region ?_
  refine lst_move rfl rfl ?_
  refine lst_fn (X := Option Addr × Nat) (vs := [_]) (p := fun _ => True) (val := fun x => .agg [.slice x.1 ags.length x.2, .int .u8 (usedAll ags.length : Nat)].toArray) (rs := fun x => [.row 89 5 x.1 ags.length x.2 (ags.flatMap Ag.cells)]) rfl rfl F.ent75 (fun a w ha => (begin_ok A c ags hok w (hA.later ha.below)).mono (fun e w' h => by obtain ⟨A', c', h1, h2⟩ := h; exact ⟨(A', c'), trivial, h1, h2⟩)) ?_
  rintro ⟨aA, cg⟩ -
  dsimp only [List.cons_append, List.nil_append]
  refine lst_alloc rfl F.ti75 ?_
  intro b8
  refine lst_store rfl rfl F.ti75 rfl ?_
  refine lst_nil ?_
  refine ex_then ?_
  refine cod_seq ?_
  refine cod_seq ?_
  refine cod_region ?_
  refine lst_load rfl rfl F.one25 ?_
  refine lst_len rfl rfl Tryd.underlying25 ?_
  refine lst_int rfl rfl rfl bin_eql ?_
  refine lst_nil ?_
  refine ex_then ?_
  refine cod_cond_dec rfl (fun hc0 => ?_) (fun hc0 => ?_)
  · skip
    refine cod_seq ?_
    refine cod_region ?_
    refine lst_assign rfl rfl ?_
    refine lst_store rfl rfl F.ti35 rfl ?_
    refine lst_nil ?_
    refine ex_then ?_
    refine cod_ret ?_
    refine ex_then_ret ?_
    exact ex_ret_caught (fun a w ha => ⟨_, res_tc (fn := Tryd.f28) ha rfl rfl rfl F.one35, rfl, ha.grown (List.nil_sublist _)⟩)
  · skip
    exact absurd h0 (by omega) -- done

theorem Both_e6 (A : Option Addr) (c : Nat) (ags : List Ag) (hok : Oks ags) (mA : Option Addr) (mc : Nat) (ms : List Int) (p : Int) (h0 : 3 < ms.length) (w : World) (hA : RdL Ag.cells 5 w A ags) : Calls Tryd.prog 28 #[.slice A ags.length c, .slice mA ms.length mc, .int .i64 p] w fun e w' => e = .returned (.tuple #[.slice none 0 0, .int .i64 6]) ∧ Grew w w' [] := by
  have hua : usedAll ags.length < 256 := by have := usedAll_lt hok.1; omega
  refine enter_defers (N := 48) [(0, .slice A ags.length c), (1, .slice mA ms.length mc), (2, .int .i64 p)] Tryd.func28 rfl Tryd.ntmps28 rfl rfl ?_
  refine cod_seq ?_
  refine cod_region ?_
  refine lst_box rfl rfl ?_
  intro b4
  refine lst_assign rfl rfl ?_
  refine lst_alloc rfl F.ti35 ?_
  intro b7
  refine lst_nil ?_
  refine ex_then ?_
  refine cod_seq ?_
  refine cod_region ?_
  refine lst_defer (first := []) (cap := []) (vs := [_]) rfl rfl ?_
  refine lst_nil ?_
  refine ex_then ?_
  refine cod_seq ?_
  refine cod_region ?_
  refine lst_move rfl rfl ?_
  refine lst_fn (X := Option Addr × Nat) (vs := [_]) (p := fun _ => True) (val := fun x => .agg [.slice x.1 ags.length x.2, .int .u8 (usedAll ags.length : Nat)].toArray) (rs := fun x => [.row 89 5 x.1 ags.length x.2 (ags.flatMap Ag.cells)]) rfl rfl F.ent75 (fun a w ha => (begin_ok A c ags hok w (hA.later ha.below)).mono (fun e w' h => by obtain ⟨A', c', h1, h2⟩ := h; exact ⟨(A', c'), trivial, h1, h2⟩)) ?_
  rintro ⟨aA, cg⟩ -
  dsimp only [List.cons_append, List.nil_append]
  refine lst_alloc rfl F.ti75 ?_
  intro b8
  refine lst_store rfl rfl F.ti75 rfl ?_
  refine lst_nil ?_
  refine ex_then ?_
  refine cod_seq ?_
  refine cod_seq ?_
  refine cod_region ?_
  refine lst_load rfl rfl F.one25 ?_
  refine lst_len rfl rfl Tryd.underlying25 ?_
  refine lst_int rfl rfl rfl bin_eql ?_
  refine lst_nil ?_
  refine ex_then ?_
  refine cod_cond_dec rfl (fun hc0 => ?_) (fun hc0 => ?_)
  · skip
    exact absurd h0 (by omega) -- done
  · skip
    refine cod_skip ?_
    refine ex_then ?_
    refine cod_seq ?_
    refine cod_seq ?_
    refine cod_region ?_
    refine lst_load rfl rfl F.one25 ?_
    refine lst_len rfl rfl Tryd.underlying25 ?_
    refine lst_int rfl rfl rfl bin_gtr ?_
    refine lst_nil ?_
    refine ex_then ?_
    refine cod_cond_dec rfl (fun hc1 => ?_) (fun hc1 => ?_)
    · skip
      refine cod_seq ?_
      refine cod_region ?_
      refine lst_assign rfl rfl ?_
      refine lst_store rfl rfl F.ti35 rfl ?_
      refine lst_nil ?_
      refine ex_then ?_
      refine cod_ret ?_
      refine ex_then_ret ?_
      exact ex_ret_caught (fun a w ha => ⟨_, res_tc (fn := Tryd.f28) ha rfl rfl rfl F.one35, rfl, ha.grown (List.nil_sublist _)⟩)
    · skip
      exact absurd h0 (by omega) -- done

theorem Both_m1 (A : Option Addr) (c : Nat) (ags : List Ag) (hok : Oks ags) (mA : Option Addr) (mc : Nat) (ms : List Int) (p : Int) (hm1 : 1 ≤ ms.length) (hm3 : ms.length ≤ 3) (hbad : ∃ m ∈ ms, inB m 0 63 = false) (w : World) (hA : RdL Ag.cells 5 w A ags) (hM : RdL icell 1 w mA ms) : Calls Tryd.prog 28 #[.slice A ags.length c, .slice mA ms.length mc, .int .i64 p] w fun e w' => e = .returned (.tuple #[.slice none 0 0, .int .i64 1]) ∧ Grew w w' [] := by
  have hua : usedAll ags.length < 256 := by have := usedAll_lt hok.1; omega
  refine enter_defers (N := 48) [(0, .slice A ags.length c), (1, .slice mA ms.length mc), (2, .int .i64 p)] Tryd.func28 rfl Tryd.ntmps28 rfl rfl ?_
  refine cod_seq ?_
  refine cod_region ?_
  refine lst_box rfl rfl ?_
  intro b4
  refine lst_assign rfl rfl ?_
  refine lst_alloc rfl F.ti35 ?_
  intro b7
  refine lst_nil ?_
  refine ex_then ?_
  refine cod_seq ?_
  refine cod_region ?_
  refine lst_defer (first := []) (cap := []) (vs := [_]) rfl rfl ?_
  refine lst_nil ?_
  refine ex_then ?_
  refine cod_seq ?_
  refine cod_region ?_
  refine lst_move rfl rfl ?_
  refine lst_fn (X := Option Addr × Nat) (vs := [_]) (p := fun _ => True) (val := fun x => .agg [.slice x.1 ags.length x.2, .int .u8 (usedAll ags.length : Nat)].toArray) (rs := fun x => [.row 89 5 x.1 ags.length x.2 (ags.flatMap Ag.cells)]) rfl rfl F.ent75 (fun a w ha => (begin_ok A c ags hok w (hA.later ha.below)).mono (fun e w' h => by obtain ⟨A', c', h1, h2⟩ := h; exact ⟨(A', c'), trivial, h1, h2⟩)) ?_
  rintro ⟨aA, cg⟩ -
  dsimp only [List.cons_append, List.nil_append]
  refine lst_alloc rfl F.ti75 ?_
  intro b8
  refine lst_store rfl rfl F.ti75 rfl ?_
  refine lst_nil ?_
  refine ex_then ?_
  refine cod_seq ?_
  refine cod_seq ?_
  refine cod_region ?_
  refine lst_load rfl rfl F.one25 ?_
  refine lst_len rfl rfl Tryd.underlying25 ?_
  refine lst_int rfl rfl rfl bin_eql ?_
  refine lst_nil ?_
  refine ex_then ?_
  refine cod_cond_dec rfl (fun hc0 => ?_) (fun hc0 => ?_)
  · skip
    exact absurd hc0 (by omega) -- done
  · skip
    refine cod_skip ?_
    refine ex_then ?_
    refine cod_seq ?_
    refine cod_seq ?_
    refine cod_region ?_
    refine lst_load rfl rfl F.one25 ?_
    refine lst_len rfl rfl Tryd.underlying25 ?_
    refine lst_int rfl rfl rfl bin_gtr ?_
    refine lst_nil ?_
    refine ex_then ?_
    refine cod_cond_dec rfl (fun hc1 => ?_) (fun hc1 => ?_)
    · skip
      exact absurd hc1 (by omega) -- done
    · skip
      refine cod_skip ?_
      refine ex_then ?_
      refine cod_seq ?_
      refine cod_region ?_
      refine lst_alloc rfl F.ti79 ?_
      intro b9
      refine lst_nil ?_
      refine ex_then ?_
      refine cod_seq ?_
      refine cod_seq ?_
      refine cod_region ?_
      refine lst_load rfl rfl F.one25 ?_
      refine lst_len rfl rfl Tryd.underlying25 ?_
      refine lst_move rfl rfl ?_
      refine lst_nil ?_
      refine ex_then ?_
      refine cod_block ?_
      refine cod_loop (G := Nat) (fun k => k ≤ ms.length ∧ ∀ y ∈ ms.take k, inB y 0 63 = true) (fun k => ms.length - k) (fun k => [(2, .int .i64 p), (6, .slice none 0 0), (4, .pointer (some ⟨b4, 0, none⟩)), (7, .pointer (some ⟨b7, 0, none⟩)), (8, .pointer (some ⟨b8, 0, none⟩)), (9, .pointer (some ⟨b9, 0, none⟩)), (22, .slice mA ms.length mc), (23, .int .i64 (ms.length : Int)), (24, .int .i64 (k : Int))]) (fun k => .blk b9 (.cells [.int .u8 ((teamOf (ms.map Int.toNat) k).1 : Int), .int .u8 ((teamOf (ms.map Int.toNat) k).2.1 : Int), .int .u8 ((teamOf (ms.map Int.toNat) k).2.2 : Int)].toArray 79 (0, 0)) :: .blk b8 (.cells [.slice aA ags.length cg, .int .u8 (usedAll ags.length : Nat)].toArray 75 (0, 0)) :: .row 89 5 aA ags.length cg (ags.flatMap Ag.cells) :: .blk b7 (.cells [.int .i64 0].toArray 35 (0, 0)) :: [.blk b4 (.cells [.slice mA ms.length mc].toArray 25 (0, 0))]) 0 ⟨Nat.zero_le _, by simp⟩ (by repeat (first | exact Sub.nil _ | refine Sub.cons rfl ?_)) (by repeat (first | exact List.Sublist.refl _ | exact List.nil_sublist _ | refine List.Sublist.cons_cons _ ?_ | refine List.Sublist.cons _ ?_)) ?_
      intro k hk
      (try dsimp only at hk ⊢)
      refine cod_seq ?_
      refine cod_region ?_
      refine lst_int rfl rfl rfl bin_lss ?_
      refine lst_nil ?_
      refine ex_then ?_
      refine cod_seq ?_
      refine cod_cond_dec rfl (fun hc2 => ?_) (fun hc2 => ?_)
      · skip
        have hk' : k < ms.length := by omega
        obtain ⟨b, o, rfl, hb, hcell⟩ := hM (by omega)
        obtain ⟨m, hx⟩ : ∃ m, ms[k]? = some m := ⟨_, List.getElem?_eq_getElem hk'⟩
        by_cases hin : inB m 0 63 = false
        · skip
          refine cod_skip ?_
          refine ex_then ?_
          refine cod_seq ?_
          refine cod_block ?_
          refine cod_seq ?_
          refine cod_region ?_
          refine lst_move rfl rfl ?_
          refine lst_index (j := k) rfl rfl rfl Tryd.underlying25 F.ti3 rfl hk' ?_
          refine lst_load_at (v := .int .i64 m) rfl rfl F.one3 (fun a w ha => ha.old (hcell k _ hx 0 _ rfl) hb) ?_
          refine lst_assign rfl rfl ?_
          refine lst_assign rfl rfl ?_
          refine lst_nil ?_
          refine ex_then ?_
          refine cod_region ?_
          refine lst_move rfl rfl ?_
          refine lst_move rfl rfl ?_
          refine lst_fn_panics (vs := [_]) rfl F.ent76 (fun a w ha => melt_bad m hin w) ?_
          refine ex_block_panic ?_
          refine ex_then_panic ?_
          refine ex_then_panic ?_
          refine ex_block_panic ?_
          refine ex_then_panic ?_
          exact ex_panic_caught (fun a w ha => ⟨_, res_tc (fn := Tryd.f28) ha rfl rfl rfl F.one35, rfl, ha.grown (by repeat (first | exact List.Sublist.refl _ | exact List.nil_sublist _ | refine List.Sublist.cons_cons _ ?_ | refine List.Sublist.cons _ ?_))⟩)
        have hin0 : inB m 0 63 = true := by simpa using hin
        obtain ⟨f, rfl, hf⟩ := nat_of_inB hin0
        have hmd : (ms.map Int.toNat).getD k 0 = f := by rw [List.getD_eq_getElem?_getD, List.getElem?_map, hx]; rfl
        refine cod_skip ?_
        refine ex_then ?_
        refine cod_seq ?_
        refine cod_block ?_
        refine cod_seq ?_
        refine cod_region ?_
        refine lst_move rfl rfl ?_
        refine lst_index (j := k) rfl rfl rfl Tryd.underlying25 F.ti3 rfl hk' ?_
        refine lst_load_at (v := .int .i64 (f : Int)) rfl rfl F.one3 (fun a w ha => ha.old (hcell k _ hx 0 _ rfl) hb) ?_
        refine lst_assign rfl rfl ?_
        refine lst_assign rfl rfl ?_
        refine lst_nil ?_
        refine ex_then ?_
        refine cod_region ?_
        refine lst_move rfl rfl ?_
        refine lst_move rfl rfl ?_
        refine lst_fn0 (vs := [_]) rfl rfl F.ent76 (fun a w ha => melt_ok f hf w) ?_
        refine lst_index_arr (j := k) rfl rfl rfl Tryd.underlying79 F.ti77 rfl (by omega) ?_
        refine lst_store_any rfl rfl F.ti77 (by show 0 + k * 1 < 3; omega) (tput_cells (teamOf (ms.map Int.toNat) k) (by omega)) UpB.upd ?_
        rw [show tput (teamOf (ms.map Int.toNat) k) k f = teamOf (ms.map Int.toNat) (k + 1) from by rw [teamOf, hmd]]
        refine lst_nil ?_
        refine ex_block_normal ?_
        refine ex_then ?_
        refine cod_region ?_
        refine lst_int rfl rfl rfl (fun w => bin_add w (wrap_i64' _ (by omega) (by omega))) ?_
        refine lst_move rfl rfl ?_
        refine lst_nil ?_
        have htake : ms.take (k + 1) = ms.take k ++ [(f : Int)] := by rw [List.take_add_one, hx]; rfl
        refine ex_round (k + 1) ⟨by omega, by rw [htake]; intro y hy; rcases List.mem_append.1 hy with h | h; exact hk.2 y h; simp at h; subst h; exact hin0⟩ (by (try dsimp only); omega) (by repeat (first | exact Sub.nil _ | refine Sub.cons rfl ?_)) (by repeat (first | exact List.Sublist.refl _ | exact List.nil_sublist _ | refine List.Sublist.cons_cons _ ?_ | refine List.Sublist.cons _ ?_))
      · skip
        exact absurd hbad (fun ⟨m, hm, h0⟩ => by
          have h := hk.2
          rw [List.take_of_length_le (by omega)] at h
          rw [h m hm] at h0
          cases h0) -- done

theorem Both_p1 (A : Option Addr) (c : Nat) (ags : List Ag) (hok : Oks ags) (mA : Option Addr) (mc : Nat) (ms : List Nat) (p : Int) (hm1 : 1 ≤ ms.length) (hm3 : ms.length ≤ 3) (hms : ∀ m ∈ ms, m < 64) (hp : inB p 0 63 = false) (w : World) (hA : RdL Ag.cells 5 w A ags) (hM : RdL ncell 1 w mA ms) : Calls Tryd.prog 28 #[.slice A ags.length c, .slice mA ms.length mc, .int .i64 p] w fun e w' => e = .returned (.tuple #[.slice none 0 0, .int .i64 1]) ∧ Grew w w' [] := by
  have hua : usedAll ags.length < 256 := by have := usedAll_lt hok.1; omega
  refine enter_defers (N := 48) [(0, .slice A ags.length c), (1, .slice mA ms.length mc), (2, .int .i64 p)] Tryd.func28 rfl Tryd.ntmps28 rfl rfl ?_
  refine cod_seq ?_
  refine cod_region ?_
  refine lst_box rfl rfl ?_
  intro b4
  refine lst_assign rfl rfl ?_
  refine lst_alloc rfl F.ti35 ?_
  intro b7
  refine lst_nil ?_
  refine ex_then ?_
  refine cod_seq ?_
  refine cod_region ?_
  refine lst_defer (first := []) (cap := []) (vs := [_]) rfl rfl ?_
  refine lst_nil ?_
  refine ex_then ?_
  refine cod_seq ?_
  refine cod_region ?_
  refine lst_move rfl rfl ?_
  refine lst_fn (X := Option Addr × Nat) (vs := [_]) (p := fun _ => True) (val := fun x => .agg [.slice x.1 ags.length x.2, .int .u8 (usedAll ags.length : Nat)].toArray) (rs := fun x => [.row 89 5 x.1 ags.length x.2 (ags.flatMap Ag.cells)]) rfl rfl F.ent75 (fun a w ha => (begin_ok A c ags hok w (hA.later ha.below)).mono (fun e w' h => by obtain ⟨A', c', h1, h2⟩ := h; exact ⟨(A', c'), trivial, h1, h2⟩)) ?_
  rintro ⟨aA, cg⟩ -
  dsimp only [List.cons_append, List.nil_append]
  refine lst_alloc rfl F.ti75 ?_
  intro b8
  refine lst_store rfl rfl F.ti75 rfl ?_
  refine lst_nil ?_
  refine ex_then ?_
  refine cod_seq ?_
  refine cod_seq ?_
  refine cod_region ?_
  refine lst_load rfl rfl F.one25 ?_
  refine lst_len rfl rfl Tryd.underlying25 ?_
  refine lst_int rfl rfl rfl bin_eql ?_
  refine lst_nil ?_
  refine ex_then ?_
  refine cod_cond_dec rfl (fun hc0 => ?_) (fun hc0 => ?_)
  · skip
    exact absurd hc0 (by omega) -- done
  · skip
    refine cod_skip ?_
    refine ex_then ?_
    refine cod_seq ?_
    refine cod_seq ?_
    refine cod_region ?_
    refine lst_load rfl rfl F.one25 ?_
    refine lst_len rfl rfl Tryd.underlying25 ?_
    refine lst_int rfl rfl rfl bin_gtr ?_
    refine lst_nil ?_
    refine ex_then ?_
    refine cod_cond_dec rfl (fun hc1 => ?_) (fun hc1 => ?_)
    · skip
      exact absurd hc1 (by omega) -- done
    · skip
      refine cod_skip ?_
      refine ex_then ?_
      refine cod_seq ?_
      refine cod_region ?_
      refine lst_alloc rfl F.ti79 ?_
      intro b9
      refine lst_nil ?_
      refine ex_then ?_
      refine cod_seq ?_
      refine cod_seq ?_
      refine cod_region ?_
      refine lst_load rfl rfl F.one25 ?_
      refine lst_len rfl rfl Tryd.underlying25 ?_
      refine lst_move rfl rfl ?_
      refine lst_nil ?_
      refine ex_then ?_
      refine cod_block ?_
      refine cod_loop (G := Nat) (fun k => k ≤ ms.length) (fun k => ms.length - k) (fun k => [(2, .int .i64 p), (6, .slice none 0 0), (4, .pointer (some ⟨b4, 0, none⟩)), (7, .pointer (some ⟨b7, 0, none⟩)), (8, .pointer (some ⟨b8, 0, none⟩)), (9, .pointer (some ⟨b9, 0, none⟩)), (22, .slice mA ms.length mc), (23, .int .i64 (ms.length : Int)), (24, .int .i64 (k : Int))]) (fun k => .blk b9 (.cells [.int .u8 ((teamOf ms k).1 : Int), .int .u8 ((teamOf ms k).2.1 : Int), .int .u8 ((teamOf ms k).2.2 : Int)].toArray 79 (0, 0)) :: .blk b8 (.cells [.slice aA ags.length cg, .int .u8 (usedAll ags.length : Nat)].toArray 75 (0, 0)) :: .row 89 5 aA ags.length cg (ags.flatMap Ag.cells) :: .blk b7 (.cells [.int .i64 0].toArray 35 (0, 0)) :: [.blk b4 (.cells [.slice mA ms.length mc].toArray 25 (0, 0))]) 0 (Nat.zero_le _) (by repeat (first | exact Sub.nil _ | refine Sub.cons rfl ?_)) (by repeat (first | exact List.Sublist.refl _ | exact List.nil_sublist _ | refine List.Sublist.cons_cons _ ?_ | refine List.Sublist.cons _ ?_)) ?_
      intro k hk
      (try dsimp only at hk ⊢)
      refine cod_seq ?_
      refine cod_region ?_
      refine lst_int rfl rfl rfl bin_lss ?_
      refine lst_nil ?_
      refine ex_then ?_
      refine cod_seq ?_
      refine cod_cond_dec rfl (fun hc2 => ?_) (fun hc2 => ?_)
      · skip
        have hk' : k < ms.length := by omega
        obtain ⟨b, o, rfl, hb, hcell⟩ := hM (by omega)
        obtain ⟨m, hx⟩ : ∃ m, ms[k]? = some m := ⟨_, List.getElem?_eq_getElem hk'⟩
        have hm64 := hms m (List.mem_of_getElem? hx)
        have hmd : ms.getD k 0 = m := by rw [List.getD_eq_getElem?_getD, hx]; rfl
        refine cod_skip ?_
        refine ex_then ?_
        refine cod_seq ?_
        refine cod_block ?_
        refine cod_seq ?_
        refine cod_region ?_
        refine lst_move rfl rfl ?_
        refine lst_index (j := k) rfl rfl rfl Tryd.underlying25 F.ti3 rfl hk' ?_
        refine lst_load_at (v := .int .i64 (m : Int)) rfl rfl F.one3 (fun a w ha => ha.old (hcell k m hx 0 _ rfl) hb) ?_
        refine lst_assign rfl rfl ?_
        refine lst_assign rfl rfl ?_
        refine lst_nil ?_
        refine ex_then ?_
        refine cod_region ?_
        refine lst_move rfl rfl ?_
        refine lst_move rfl rfl ?_
        refine lst_fn0 (vs := [_]) rfl rfl F.ent76 (fun a w ha => melt_ok m hm64 w) ?_
        refine lst_index_arr (j := k) rfl rfl rfl Tryd.underlying79 F.ti77 rfl (by omega) ?_
        refine lst_store_any rfl rfl F.ti77 (by show 0 + k * 1 < 3; omega) (tput_cells (teamOf ms k) (by omega)) UpB.upd ?_
        rw [show tput (teamOf ms k) k m = teamOf ms (k + 1) from by rw [teamOf, hmd]]
        refine lst_nil ?_
        refine ex_block_normal ?_
        refine ex_then ?_
        refine cod_region ?_
        refine lst_int rfl rfl rfl (fun w => bin_add w (wrap_i64' _ (by omega) (by omega))) ?_
        refine lst_move rfl rfl ?_
        refine lst_nil ?_
        refine ex_round (k + 1) (by omega) (by (try dsimp only); omega) (by repeat (first | exact Sub.nil _ | refine Sub.cons rfl ?_)) (by repeat (first | exact List.Sublist.refl _ | exact List.nil_sublist _ | refine List.Sublist.cons_cons _ ?_ | refine List.Sublist.cons _ ?_))
      · skip
        refine cod_exit ?_
        refine ex_then_exit ?_
        refine ex_then_exit ?_
        refine ex_block_exit ?_
        refine ex_then ?_
        refine cod_seq ?_
        refine cod_region ?_
        refine lst_move rfl rfl ?_
        refine lst_fn_panics (vs := [_]) rfl F.ent76 (fun a w ha => melt_bad p hp w) ?_
        refine ex_then_panic ?_
        exact ex_panic_caught (fun a w ha => ⟨_, res_tc (fn := Tryd.f28) ha rfl rfl rfl F.one35, rfl, ha.grown (by repeat (first | exact List.Sublist.refl _ | exact List.nil_sublist _ | refine List.Sublist.cons_cons _ ?_ | refine List.Sublist.cons _ ?_))⟩)

end Go.Proofs.YtofkhehcnfiopaaDoor.N
namespace Go.Proofs.YtofkhehcnfiopaaDoor.N
open Go Go.RowKit Go.Proofs
theorem along_follow {ags : List Ag} : ∀ (v : List Nat) (f : Nat), (∃ outs, alongE ags f (castL v) = .ok outs ∧ outs.length = v.length ∧ followN ags f v = some (lastN f outs)) ∨ (∃ E, alongE ags f (castL v) = .error E ∧ E ≠ 0 ∧ followN ags f v = none)
  | [], f => .inl ⟨[], rfl, rfl, rfl⟩
  | i :: l, f => by
    have e : castL (i :: l) = (i : Int) :: castL l := rfl
    rw [e]
    unfold alongE followN
    by_cases hi : i < ags.length
    · have hb : inB (i : Int) 0 ((ags.length : Int) - 1) = true := inB_true.2 ⟨by omega, by omega⟩
      rw [if_neg (by rw [hb]; simp), Int.toNat_natCast]
      cases hm : mayN (ags.getD i default) f with
      | false => exact .inr ⟨12, by rw [if_pos rfl], by omega, by rw [if_neg (by simp)]⟩
      | true =>
        rw [if_neg (by simp), if_pos ⟨hi, rfl⟩]
        rcases along_follow l (putN (ags.getD i default) f) with ⟨outs, h1, h2, h3⟩ | ⟨E, h1, h2, h3⟩
        · refine .inl ⟨putN (ags.getD i default) f :: outs, by rw [h1]; rfl, by simp [h2], ?_⟩
          rw [h3]
          cases outs <;> rfl
        · exact .inr ⟨E, by rw [h1]; rfl, h2, h3⟩
    · have hb : inB (i : Int) 0 ((ags.length : Int) - 1) = false := by
        cases h : inB (i : Int) 0 ((ags.length : Int) - 1) with
        | false => rfl
        | true => have := inB_true.1 h; omega
      exact .inr ⟨3, by rw [if_pos hb], by omega, by rw [if_neg (fun h => hi h.1)]⟩
theorem PutS.follow {ags : List Ag} {f E : Nat} {v outs : List Nat} (h : PutS ags f (castL v) outs E) (hl : v.length ≤ 20) :
    (E = 0 ∧ outs.length = v.length ∧ followN ags f v = some (lastN f outs)) ∨ (E ≠ 0 ∧ followN ags f v = none) := by
  rcases along_follow (ags := ags) v f with ⟨o, h1, h2, h3⟩ | ⟨c, h1, h2, h3⟩
  · obtain ⟨rfl, rfl⟩ := h.ok (by rw [castL_len]; exact hl) h1
    exact .inl ⟨rfl, h2, h3⟩
  · rcases h with ⟨_, h4, _, _⟩ | ⟨_, h4, h5, _⟩ | ⟨h4, _, _⟩
    · rw [h1] at h4; cases h4
    · exact .inr ⟨by rcases h5 with rfl | rfl <;> omega, h3⟩
    · rw [castL_len] at h4; omega
theorem lastN_at {f : Nat} {l : List Nat} {x : Nat} (h : l[l.length - 1]? = some x) : lastN f l = x := by
  unfold lastN
  rw [List.getLast?_eq_getElem?, h]
  rfl
theorem lst_fr {C : Ctx} {fr fr' : List (Nat × Value)} {hp : List Res} {ops : Array Oper} {Q : Exit → Act → World → Prop} {rest : List Oper} (h : Sub fr' fr) (k : Lst C ops Q rest fr' hp) : Lst C ops Q rest fr hp :=
  fun a w ha => k a w (ha.drop_slots h)
end Go.Proofs.YtofkhehcnfiopaaDoor.N
namespace Go.Proofs.YtofkhehcnfiopaaDoor.N
open Go Go.RowKit Go.Proofs

theorem rBoth_ok (A : Option Addr) (c : Nat) (ags : List Ag) (hok : Oks ags) (mA : Option Addr) (mc : Nat) (ms : List Nat) (p : Nat) (hm1 : 1 ≤ ms.length) (hm3 : ms.length ≤ 3) (hms : ∀ m ∈ ms, m < 64) (hp : p < 64) (w : World) (hA : RdL Ag.cells 5 w A ags) (hM : RdL ncell 1 w mA ms) : Calls Tryd.prog 29 #[.slice A ags.length c, .slice mA ms.length mc, .int .i64 (p : Int)] w fun e w' => Says w (fsA ags.length (clearsM ags ms p) 5).1 (fsA ags.length (clearsM ags ms p) 5).2 e w' := by
  refine enter (N := 107) [(0, .slice A ags.length c), (1, .slice mA ms.length mc), (2, .int .i64 (p : Int))] Tryd.func29 rfl Tryd.ntmps29 rfl rfl ?_
  refine cod_seq ?_
  refine cod_region ?_
  refine lst_assign rfl rfl ?_
  refine lst_assign rfl rfl ?_
  refine lst_nil ?_
  refine ex_then ?_
  refine cod_seq ?_
  refine cod_seq ?_
  refine cod_region ?_
  refine lst_move rfl rfl ?_
  refine lst_fn0 (v := .int .i64 0) (vs := [_]) rfl rfl F.ent47 (fun a w ha => by
    have h := rcheck_c A c (ags.map Ag.raw) w (hA.raw.later ha.below)
    rw [List.length_map, checkR_raw hok] at h
    exact h) ?_
  refine lst_assign rfl rfl ?_
  refine lst_nil ?_
  refine ex_then ?_
  refine cod_seq ?_
  refine cod_region ?_
  refine lst_move rfl rfl ?_
  refine lst_int rfl rfl rfl bin_neq ?_
  refine lst_nil ?_
  refine ex_then ?_
  refine cod_cond_false rfl ?_
  refine cod_skip ?_
  refine ex_then ?_
  refine cod_seq ?_
  refine cod_seq ?_
  refine cod_region ?_
  refine lst_move rfl rfl ?_
  refine lst_len rfl rfl Tryd.underlying25 ?_
  refine lst_int rfl rfl rfl bin_eql ?_
  refine lst_nil ?_
  refine ex_then ?_
  refine cod_cond_dec rfl (fun hc1 => ?_) (fun hc1 => ?_)
  · skip
    exact absurd hc1 (by omega) -- done
  · skip
    refine cod_skip ?_
    refine ex_then ?_
    refine cod_seq ?_
    refine cod_seq ?_
    refine cod_region ?_
    refine lst_move rfl rfl ?_
    refine lst_len rfl rfl Tryd.underlying25 ?_
    refine lst_int rfl rfl rfl bin_gtr ?_
    refine lst_nil ?_
    refine ex_then ?_
    refine cod_cond_dec rfl (fun hc2 => ?_) (fun hc2 => ?_)
    · skip
      exact absurd hc2 (by omega) -- done
    · skip
      refine cod_skip ?_
      refine ex_then ?_
      refine cod_seq ?_
      refine cod_seq ?_
      refine cod_region ?_
      refine lst_assign rfl rfl ?_
      refine lst_nil ?_
      refine ex_then ?_
      refine cod_block ?_
      refine cod_loop (G := Nat) (fun k => k ≤ ms.length) (fun k => ms.length - k) (fun k => [(0, .slice A ags.length c), (1, .slice mA ms.length mc), (2, .int .i64 (p : Int)), (9, .int .i64 (k : Int))]) (fun k => []) 0 (Nat.zero_le _) (by repeat (first | exact Sub.nil _ | refine Sub.cons rfl ?_)) (by repeat (first | exact List.Sublist.refl _ | exact List.nil_sublist _ | refine List.Sublist.cons_cons _ ?_ | refine List.Sublist.cons _ ?_)) ?_
      intro k hk
      (try dsimp only at hk ⊢)
      refine cod_seq ?_
      refine cod_seq ?_
      refine cod_region ?_
      refine lst_move rfl rfl ?_
      refine lst_move rfl rfl ?_
      refine lst_len rfl rfl Tryd.underlying25 ?_
      refine lst_int rfl rfl rfl bin_lss ?_
      refine lst_nil ?_
      refine ex_then ?_
      refine cod_cond_dec rfl (fun hc3 => ?_) (fun hc3 => ?_)
      · skip
        have hx' : k < ms.length := by omega
        obtain ⟨b, o, rfl, hb, hcell⟩ := hM (by omega)
        obtain ⟨m, hx⟩ : ∃ m, ms[k]? = some m := ⟨_, List.getElem?_eq_getElem hx'⟩
        have hm64 := hms m (List.mem_of_getElem? hx)
        have hmd : ms.getD k 0 = m := by rw [List.getD_eq_getElem?_getD, hx]; rfl
        refine cod_skip ?_
        refine ex_then ?_
        refine cod_seq ?_
        refine cod_block ?_
        refine cod_seq ?_
        refine cod_region ?_
        refine lst_move rfl rfl ?_
        refine lst_move rfl rfl ?_
        refine lst_index (j := k) rfl rfl rfl Tryd.underlying25 F.ti3 rfl hx' ?_
        refine lst_load_at (v := .int .i64 (m : Int)) rfl rfl F.one3 (fun a w ha => ha.old (hcell k m hx 0 _ rfl) hb) ?_
        refine lst_fn0 (v := .bool true) (vs := [_, _, _]) rfl rfl F.ent82 (fun a w ha => by
          have h := among_c (m : Int) 0 63 w
          rw [inB_true.2 (by omega)] at h
          exact h) ?_
        refine lst_not rfl rfl ?_
        refine lst_nil ?_
        refine ex_then ?_
        refine cod_cond_false rfl ?_
        refine cod_skip ?_
        refine ex_block_normal ?_
        refine ex_then ?_
        refine cod_region ?_
        refine lst_move rfl rfl ?_
        refine lst_int rfl rfl rfl (fun w => bin_add w (wrap_i64' _ (by omega) (by omega))) ?_
        refine lst_assign rfl rfl ?_
        refine lst_nil ?_
        refine ex_round (k + 1) (by omega) (by (try dsimp only); omega) (by repeat (first | exact Sub.nil _ | refine Sub.cons rfl ?_)) (by repeat (first | exact List.Sublist.refl _ | exact List.nil_sublist _ | refine List.Sublist.cons_cons _ ?_ | refine List.Sublist.cons _ ?_))
      · skip
        refine cod_exit ?_
        refine ex_then_exit ?_
        refine ex_then_exit ?_
        refine ex_block_exit ?_
        refine ex_then ?_
        refine cod_seq ?_
        refine cod_seq ?_
        refine cod_region ?_
        refine lst_move rfl rfl ?_
        refine lst_fn0 (v := .bool true) (vs := [_, _, _]) rfl rfl F.ent82 (fun a w ha => by
          have h := among_c (p : Int) 0 63 w
          rw [inB_true.2 (by omega)] at h
          exact h) ?_
        refine lst_not rfl rfl ?_
        refine lst_nil ?_
        refine ex_then ?_
        refine cod_cond_false rfl ?_
        refine cod_skip ?_
        refine ex_then ?_
        refine cod_seq ?_
        refine cod_seq ?_
        refine cod_region ?_
        refine lst_assign rfl rfl ?_
        refine lst_nil ?_
        refine ex_then ?_
        refine cod_block ?_
        refine cod_loop (G := Nat) (fun k => k ≤ 6 ∧ SeenS ags.length (clearsM ags ms p) k 0) (fun k => 6 - k) (fun k => [(0, .slice A ags.length c), (1, .slice mA ms.length mc), (2, .int .i64 (p : Int)), (10, .int .i64 (k : Int))]) (fun k => []) 0 ⟨Nat.zero_le _, .start⟩ (by repeat (first | exact Sub.nil _ | refine Sub.cons rfl ?_)) (by repeat (first | exact List.Sublist.refl _ | exact List.nil_sublist _ | refine List.Sublist.cons_cons _ ?_ | refine List.Sublist.cons _ ?_)) ?_
        intro k hk
        (try dsimp only at hk ⊢)
        refine cod_seq ?_
        refine cod_seq ?_
        refine cod_region ?_
        refine lst_move rfl rfl ?_
        refine lst_int rfl rfl rfl bin_leq ?_
        refine lst_nil ?_
        refine ex_then ?_
        refine cod_cond_dec rfl (fun hc6 => ?_) (fun hc6 => ?_)
        · skip
          have hk5 : k ≤ 5 := by omega
          have h4 := hok.1
          refine cod_skip ?_
          refine ex_then ?_
          refine cod_seq ?_
          refine cod_block ?_
          refine cod_seq ?_
          refine cod_region ?_
          refine lst_move rfl rfl ?_
          refine lst_len rfl rfl Tryd.underlying22 ?_
          refine lst_move rfl rfl ?_
          refine lst_fn (X := List Sl × Option Addr × Nat) (vs := [_, _]) (p := fun y => y.1.map Sl.l = strs ags.length k) (val := fun y => .slice y.2.1 y.1.length y.2.2) (rs := fun y => .row 25 1 y.2.1 y.1.length y.2.2 (y.1.map Sl.val) :: y.1.map Sl.res) rfl rfl F.ent83 (fun a w ha => (lists_c ags.length hok.1 k (by omega) w).mono (fun e w' h => by obtain ⟨Ls, A', c', h1, h2, h3⟩ := h; exact ⟨(Ls, A', c'), h1, h2, h3⟩)) ?_
          rintro ⟨Ls, lA, lc⟩ hLs
          dsimp only [List.cons_append] at hLs ⊢
          have hLl : Ls.length = (strs ags.length k).length := by rw [← hLs, List.length_map]
          refine lst_assign rfl rfl ?_
          refine lst_nil ?_
          refine ex_then ?_
          refine cod_seq ?_
          refine cod_region ?_
          refine lst_assign rfl rfl ?_
          refine lst_nil ?_
          refine ex_then ?_
          refine cod_block ?_
          refine cod_loop' (G := Nat) (fun g => g ≤ Ls.length ∧ SeenS ags.length (clearsM ags ms p) k g) (fun g => Ls.length - g) (fun g => [(0, .slice A ags.length c), (1, .slice mA ms.length mc), (2, .int .i64 (p : Int)), (10, .int .i64 (k : Int)), (11, .slice lA Ls.length lc), (12, .int .i64 (g : Int))]) (fun g => .row 25 1 lA Ls.length lc (Ls.map Sl.val) :: (Ls.map Sl.res ++ [])) (0) ⟨Nat.zero_le _, hk.2⟩ (by repeat (first | exact Sub.nil _ | refine Sub.cons rfl ?_)) (by repeat (first | exact Pck.nil _ | exact Pck.refl _ | (apply Pck.cons; focus ((repeat (first | exact Rem.here _ | apply Rem.there)); done)) | refine Pck.skip _ ?_)) ?_
          rintro i hi
          (try dsimp only at hi ⊢)
          refine cod_seq ?_
          refine cod_seq ?_
          refine cod_region ?_
          refine lst_move rfl rfl ?_
          refine lst_move rfl rfl ?_
          refine lst_len rfl rfl Tryd.underlying49 ?_
          refine lst_int rfl rfl rfl bin_lss ?_
          refine lst_nil ?_
          refine ex_then ?_
          refine cod_cond_dec rfl (fun hc7 => ?_) (fun hc7 => ?_)
          · skip
            have hil : i < Ls.length := by omega
            have hL1 := strs_le (n := ags.length) (k := k) (by omega) hk5
            obtain ⟨s, hs⟩ : ∃ s, Ls[i]? = some s := ⟨_, List.getElem?_eq_getElem hil⟩
            have hsx : (strs ags.length k)[i]? = some s.l := by rw [← hLs, List.getElem?_map, hs]; rfl
            have hsm : s ∈ Ls := List.mem_of_getElem? hs
            have hsl := (strs_mem (List.mem_of_getElem? hsx)).1
            refine cod_know (φ := ∃ g, lA = some ⟨g, 0, none⟩) (fun a w ha => row_some (ha.own _ (InR.mem (A := lA))) (by omega)) (fun hgL => ?_)
            obtain ⟨gL, rfl⟩ := hgL
            refine cod_skip ?_
            refine ex_then ?_
            refine cod_seq ?_
            refine cod_block ?_
            refine cod_seq ?_
            refine cod_region ?_
            refine lst_assign rfl rfl ?_
            refine lst_nil ?_
            refine ex_then ?_
            refine cod_seq ?_
            refine cod_seq ?_
            refine cod_region ?_
            refine lst_assign rfl rfl ?_
            refine lst_nil ?_
            refine ex_then ?_
            refine cod_block ?_
            refine cod_loop' (G := Nat × Bool) (fun g => g.1 ≤ ms.length ∧ (g.2 = true ↔ ∀ j, j < g.1 → (∃ g, followN ags (ms.getD j 0) s.l = some g ∧ nn g p = 0))) (fun g => ms.length - g.1) (fun g => [(0, .slice A ags.length c), (1, .slice mA ms.length mc), (2, .int .i64 (p : Int)), (10, .int .i64 (k : Int)), (11, .slice (some ⟨gL, 0, none⟩) Ls.length lc), (12, .int .i64 (i : Int)), (13, .bool g.2), (14, .int .i64 (g.1 : Int))]) (fun g => .row 25 1 (some ⟨gL, 0, none⟩) Ls.length lc (Ls.map Sl.val) :: (Ls.map Sl.res ++ [])) (0, true) ⟨Nat.zero_le _, by simp⟩ (by repeat (first | exact Sub.nil _ | refine Sub.cons rfl ?_)) (by repeat (first | exact Pck.nil _ | exact Pck.refl _ | (apply Pck.cons; focus ((repeat (first | exact Rem.here _ | apply Rem.there)); done)) | refine Pck.skip _ ?_)) ?_
            rintro ⟨x, al⟩ hX
            dsimp only at hX ⊢
            refine cod_seq ?_
            refine cod_seq ?_
            refine cod_region ?_
            refine lst_cut1 7 64 (.bool (decide ((x : Int) < (ms.length : Int)) && al)) ?_ ?_
            · skip
              refine lst_move rfl rfl ?_
              refine lst_move rfl rfl ?_
              refine lst_len rfl rfl Tryd.underlying25 ?_
              refine lst_int rfl rfl rfl bin_lss ?_
              refine lst_move rfl rfl ?_
              refine lst_split_bool (t := 62) rfl (fun hg62 => ?_) (fun hg62 => ?_)
              · skip
                refine lst_on rfl rfl ?_
                refine lst_move rfl rfl ?_
                refine lst_pick_true rfl rfl rfl ?_
                refine lst_nil ?_
                exact ex_cut (.cons (by first | (simp_all [look]; done) | (simp_all [look]; intro h; omega)) (by repeat (first | exact Sub.nil _ | refine Sub.cons rfl ?_))) (by repeat (first | exact List.Sublist.refl _ | exact List.nil_sublist _ | refine List.Sublist.cons_cons _ ?_ | refine List.Sublist.cons _ ?_))
              · skip
                refine lst_off rfl rfl rfl ?_
                refine lst_pick_false rfl rfl rfl ?_
                refine lst_nil ?_
                exact ex_cut (.cons (by first | (simp_all [look]; done) | (simp_all [look]; intro h; omega)) (by repeat (first | exact Sub.nil _ | refine Sub.cons rfl ?_))) (by repeat (first | exact List.Sublist.refl _ | exact List.nil_sublist _ | refine List.Sublist.cons_cons _ ?_ | refine List.Sublist.cons _ ?_))
            refine lst_nil ?_
            refine ex_then ?_
            refine cod_cond_bool rfl (fun hc8 => ?_) (fun hc8 => ?_)
            · skip
              rw [Bool.and_eq_true, decide_eq_true_eq] at hc8
              obtain ⟨hc8, rfl⟩ := hc8
              have hx' : x < ms.length := by omega
              obtain ⟨b, o, rfl, hb, hcell⟩ := hM (by omega)
              obtain ⟨m, hx⟩ : ∃ m, ms[x]? = some m := ⟨_, List.getElem?_eq_getElem hx'⟩
              have hm64 := hms m (List.mem_of_getElem? hx)
              have hmd : ms.getD x 0 = m := by rw [List.getD_eq_getElem?_getD, hx]; rfl
              refine cod_skip ?_
              refine ex_then ?_
              refine cod_seq ?_
              refine cod_block ?_
              refine cod_seq ?_
              refine any_begin [] F.follows 15 rfl [false, false, false, false, false, false, false, false, false, false, false, false, false, false, false] rfl ?_
              refine any_take (listed' := [true, false, false, false, false, false, false, false, false, false, false, false, false, false, false].toArray) 0 rfl rfl rfl (by kernel_rfl) (by kernel_rfl) (by kernel_rfl) (by repeat (first | exact List.Sublist.refl _ | exact List.nil_sublist _ | refine List.Sublist.cons_cons _ ?_ | refine List.Sublist.cons _ ?_)) (yld_move rfl) rfl ?_
              refine any_take (listed' := [true, true, false, false, false, false, false, false, false, false, false, false, false, false, false].toArray) 1 rfl rfl rfl (by kernel_rfl) (by kernel_rfl) (by kernel_rfl) (by repeat (first | exact List.Sublist.refl _ | exact List.nil_sublist _ | refine List.Sublist.cons_cons _ ?_ | refine List.Sublist.cons _ ?_)) (yld_move rfl) rfl ?_
              refine any_take (listed' := [true, true, true, false, false, false, false, false, false, false, false, false, false, false, false].toArray) 2 rfl rfl rfl (by kernel_rfl) (by kernel_rfl) (by kernel_rfl) (by repeat (first | exact List.Sublist.refl _ | exact List.nil_sublist _ | refine List.Sublist.cons_cons _ ?_ | refine List.Sublist.cons _ ?_)) (yld_move rfl) rfl ?_
              refine any_take (listed' := [true, true, true, true, false, false, false, false, false, false, false, false, false, false, false].toArray) 3 rfl rfl rfl (by kernel_rfl) (by kernel_rfl) (by kernel_rfl) (by repeat (first | exact List.Sublist.refl _ | exact List.nil_sublist _ | refine List.Sublist.cons_cons _ ?_ | refine List.Sublist.cons _ ?_)) (yld_index (j := x) rfl rfl Tryd.underlying25 F.ti3 rfl hx') rfl ?_
              refine any_take (listed' := [true, true, true, true, true, false, false, false, false, false, false, false, false, false, false].toArray) 4 rfl rfl rfl (by kernel_rfl) (by kernel_rfl) (by kernel_rfl) (by repeat (first | exact List.Sublist.refl _ | exact List.nil_sublist _ | refine List.Sublist.cons_cons _ ?_ | refine List.Sublist.cons _ ?_)) (yld_load_at (v := .int .i64 (m : Int)) rfl F.one3 (fun a w ha => ha.old (hcell x m hx 0 _ rfl) hb)) rfl ?_
              refine any_take (listed' := [true, true, true, true, true, true, false, false, false, false, false, false, false, false, false].toArray) 5 rfl rfl rfl (by kernel_rfl) (by kernel_rfl) (by kernel_rfl) (by repeat (first | exact List.Sublist.refl _ | exact List.nil_sublist _ | refine List.Sublist.cons_cons _ ?_ | refine List.Sublist.cons _ ?_)) (yld_move rfl) rfl ?_
              refine any_take (listed' := [true, true, true, true, true, true, true, false, false, false, false, false, false, false, false].toArray) 6 rfl rfl rfl (by kernel_rfl) (by kernel_rfl) (by kernel_rfl) (by repeat (first | exact List.Sublist.refl _ | exact List.nil_sublist _ | refine List.Sublist.cons_cons _ ?_ | refine List.Sublist.cons _ ?_)) (yld_move rfl) rfl ?_
              refine any_take (listed' := [true, true, true, true, true, true, true, true, false, false, false, false, false, false, false].toArray) 7 rfl rfl rfl (by kernel_rfl) (by kernel_rfl) (by kernel_rfl) (by repeat (first | exact List.Sublist.refl _ | exact List.nil_sublist _ | refine List.Sublist.cons_cons _ ?_ | refine List.Sublist.cons _ ?_)) (yld_index (j := i) rfl rfl Tryd.underlying49 F.ti25 rfl hil) rfl ?_
              refine any_take (listed' := [true, true, true, true, true, true, true, true, true, false, false, false, false, false, false].toArray) 8 rfl rfl rfl (by kernel_rfl) (by kernel_rfl) (by kernel_rfl) (by repeat (first | exact List.Sublist.refl _ | exact List.nil_sublist _ | refine List.Sublist.cons_cons _ ?_ | refine List.Sublist.cons _ ?_)) (yld_load_at (v := .slice s.A s.l.length s.c) rfl F.one25 (fun a w ha => row_cell ha (InR.mem (A := (some ⟨gL, 0, none⟩))) rfl (by rw [Nat.zero_add]; exact vals_get hs))) rfl ?_
              refine any_one (listed' := [true, true, true, true, true, true, true, true, true, true, false, false, false, false, false].toArray) 9 (by kernel_rfl) rfl rfl ?_
              refine lst_fn (X := List Nat × Nat × Option Addr × Nat) (vs := [_, _, _]) (p := fun y => PutS ags m (castL (s.l)) y.1 y.2.1) (val := fun y => .tuple #[.slice y.2.2.1 y.1.length y.2.2.2, .int .i64 (y.2.1 : Int)]) (rs := fun y => [.row 3 1 y.2.2.1 y.1.length y.2.2.2 (ints y.1)]) rfl rfl F.ent45 (fun a w ha => by
                have h := rPut_ok A s.A c s.c ags hok m hm64 (castL (s.l)) w (hA.later ha.below) (RdL.cast (row_reads ha (cells := ncell) (size := 1) (e := 3) (c := s.c) (n := s.l.length) (fun _ => rfl) (by have hm : s.res ∈ Ls.map Sl.res := List.mem_map.2 ⟨s, hsm, rfl⟩; rw [← ints_flat]; simp [hm, ← show s.res = Res.row 3 1 s.A s.l.length s.c (ints s.l) from rfl]) rfl))
                rw [castL_len] at h
                exact h.mono (fun e w' h => by obtain ⟨o, E, A', c', h1, h2, h3⟩ := h; exact ⟨(o, E, A', c'), h1, h2, h3⟩)) ?_
              rintro ⟨os1, E1, oA1, oc1⟩ hP1
              dsimp only [List.cons_append, List.nil_append] at hP1 ⊢
              refine lst_nil ?_
              refine any_next (by repeat (first | exact List.Sublist.refl _ | exact List.nil_sublist _ | refine List.Sublist.cons_cons _ ?_ | refine List.Sublist.cons _ ?_)) ?_
              refine any_take (listed' := [true, true, true, true, true, true, true, true, true, true, true, false, false, false, false].toArray) 10 rfl rfl rfl (by kernel_rfl) (by kernel_rfl) (by kernel_rfl) (by repeat (first | exact List.Sublist.refl _ | exact List.nil_sublist _ | refine List.Sublist.cons_cons _ ?_ | refine List.Sublist.cons _ ?_)) (yld_move rfl) rfl ?_
              refine any_take (listed' := [true, true, true, true, true, true, true, true, true, true, true, true, false, false, false].toArray) 11 rfl rfl rfl (by kernel_rfl) (by kernel_rfl) (by kernel_rfl) (by repeat (first | exact List.Sublist.refl _ | exact List.nil_sublist _ | refine List.Sublist.cons_cons _ ?_ | refine List.Sublist.cons _ ?_)) (yld_extract rfl rfl) rfl ?_
              refine any_take (listed' := [true, true, true, true, true, true, true, true, true, true, true, true, true, false, false].toArray) 12 rfl rfl rfl (by kernel_rfl) (by kernel_rfl) (by kernel_rfl) (by repeat (first | exact List.Sublist.refl _ | exact List.nil_sublist _ | refine List.Sublist.cons_cons _ ?_ | refine List.Sublist.cons _ ?_)) (yld_extract rfl rfl) rfl ?_
              refine any_take (listed' := [true, true, true, true, true, true, true, true, true, true, true, true, true, true, false].toArray) 13 rfl rfl rfl (by kernel_rfl) (by kernel_rfl) (by kernel_rfl) (by repeat (first | exact List.Sublist.refl _ | exact List.nil_sublist _ | refine List.Sublist.cons_cons _ ?_ | refine List.Sublist.cons _ ?_)) (yld_assign rfl) rfl ?_
              refine any_take (listed' := [true, true, true, true, true, true, true, true, true, true, true, true, true, true, true].toArray) 14 rfl rfl rfl (by kernel_rfl) (by kernel_rfl) (by kernel_rfl) (by repeat (first | exact List.Sublist.refl _ | exact List.nil_sublist _ | refine List.Sublist.cons_cons _ ?_ | refine List.Sublist.cons _ ?_)) (yld_assign rfl) rfl ?_
              refine any_done rfl (by kernel_rfl) ?_
              have hfol := hP1.follow (by omega)
              refine ex_then ?_
              refine cod_seq ?_
              refine cod_region ?_
              refine lst_move rfl rfl ?_
              refine lst_move rfl rfl ?_
              refine lst_index (j := x) rfl rfl rfl Tryd.underlying25 F.ti3 rfl hx' ?_
              refine lst_load_at (v := .int .i64 (m : Int)) rfl rfl F.one3 (fun a w ha => ha.old (hcell x m hx 0 _ rfl) hb) ?_
              refine lst_assign rfl rfl ?_
              refine lst_nil ?_
              refine ex_then ?_
              refine cod_seq ?_
              refine cod_seq ?_
              refine cod_region ?_
              refine lst_cut1 6 89 (.bool (decide ((0 : Int) < (k : Int)) && decide ((E1 : Int) = 0))) ?_ ?_
              · skip
                refine lst_move rfl rfl ?_
                refine lst_int rfl rfl rfl bin_gtr ?_
                refine lst_move rfl rfl ?_
                refine lst_split_bool (t := 86) rfl (fun hg86 => ?_) (fun hg86 => ?_)
                · skip
                  refine lst_on rfl rfl ?_
                  refine lst_move rfl rfl ?_
                  refine lst_on rfl rfl ?_
                  refine lst_int rfl rfl rfl bin_eql ?_
                  refine lst_pick_true rfl rfl rfl ?_
                  refine lst_nil ?_
                  exact ex_cut (.cons (by simp_all [look]) (by repeat (first | exact Sub.nil _ | refine Sub.cons rfl ?_))) (by repeat (first | exact List.Sublist.refl _ | exact List.nil_sublist _ | refine List.Sublist.cons_cons _ ?_ | refine List.Sublist.cons _ ?_))
                · skip
                  refine lst_off rfl rfl rfl ?_
                  refine lst_off rfl rfl rfl ?_
                  refine lst_pick_false rfl rfl rfl ?_
                  refine lst_nil ?_
                  exact ex_cut (.cons (by simp_all [look]) (by repeat (first | exact Sub.nil _ | refine Sub.cons rfl ?_))) (by repeat (first | exact List.Sublist.refl _ | exact List.nil_sublist _ | refine List.Sublist.cons_cons _ ?_ | refine List.Sublist.cons _ ?_))
              refine lst_nil ?_
              refine ex_then ?_
              refine cod_cond_bool rfl (fun hc9 => ?_) (fun hc9 => ?_)
              · skip
                rw [Bool.and_eq_true, decide_eq_true_eq, decide_eq_true_eq] at hc9
                have hE1 : E1 = 0 := by omega
                have hfol' : os1.length = s.l.length ∧ followN ags m s.l = some (lastN m os1) := by
                  rcases hfol with h | h
                  · exact h.2
                  · exact absurd hE1 h.1
                obtain ⟨la, hla⟩ : ∃ x, os1[os1.length - 1]? = some x := ⟨_, List.getElem?_eq_getElem (by omega)⟩
                have hlast := lastN_at (f := m) hla
                have hla64 : la < 64 := followN_lt hok s.l m la hm64 (by rw [hfol'.2, hlast])
                have hgood : (decide ((E1 : Int) = 0) && decide (nn la p = 0)) = true ↔ ∃ g, followN ags m s.l = some g ∧ nn g p = 0 := by
                  rw [hfol'.2, hlast, hE1]
                  simp
                refine cod_region ?_
                refine lst_move rfl rfl ?_
                refine lst_move rfl rfl ?_
                refine lst_int rfl rfl rfl (fun w => bin_sub w (show IntKind.i64.wrap ((k : Int) - 1) = ((os1.length - 1 : Nat) : Int) from by rw [wrap_i64' _ (by omega) (by omega)]; omega)) ?_
                refine lst_index_row (j := os1.length - 1) rfl rfl rfl Tryd.underlying25 F.ti3 rfl (by omega) rfl rfl ?_
                intro gO hgO
                refine lst_load_row (v := .int .i64 (la : Int)) rfl rfl F.one3 hgO (ints_get hla) ?_
                refine lst_assign rfl rfl ?_
                refine lst_fr (fr' := [(0, .slice A ags.length c), (1, .slice (some ⟨b, o, none⟩) ms.length mc), (2, .int .i64 (p : Int)), (10, .int .i64 (k : Int)), (11, .slice (some ⟨gL, 0, none⟩) Ls.length lc), (12, .int .i64 (i : Int)), (13, .bool true), (14, .int .i64 (x : Int)), (16, .int .i64 (E1 : Int)), (17, .int .i64 (la : Int))]) (by repeat (first | exact Sub.nil _ | refine Sub.cons rfl ?_)) ?_
                refine lst_nil ?_
                refine ex_then ?_
                refine cod_region ?_
                refine lst_cut1 7 101 (.bool (decide ((E1 : Int) = 0) && decide (nn la p = 0))) ?_ ?_
                · skip
                  refine lst_move rfl rfl ?_
                  refine lst_int rfl rfl rfl bin_eql ?_
                  refine lst_move rfl rfl ?_
                  refine lst_split_bool (t := 97) rfl (fun hg97 => ?_) (fun hg97 => ?_)
                  · skip
                    refine lst_on rfl rfl ?_
                    refine lst_move rfl rfl ?_
                    refine lst_on rfl rfl ?_
                    refine lst_move rfl rfl ?_
                    refine lst_on rfl rfl ?_
                    refine lst_fn0 (vs := [_, _]) rfl rfl F.ent37 (fun a w ha => Clear_c la p hla64 hp w) ?_
                    refine lst_pick_true rfl rfl rfl ?_
                    refine lst_nil ?_
                    exact ex_cut (.cons (by simp_all [look]) (by repeat (first | exact Sub.nil _ | refine Sub.cons rfl ?_))) (by repeat (first | exact List.Sublist.refl _ | exact List.nil_sublist _ | refine List.Sublist.cons_cons _ ?_ | refine List.Sublist.cons _ ?_))
                  · skip
                    refine lst_off rfl rfl rfl ?_
                    refine lst_off rfl rfl rfl ?_
                    refine lst_off rfl rfl rfl ?_
                    refine lst_pick_false rfl rfl rfl ?_
                    refine lst_nil ?_
                    exact ex_cut (.cons (by simp_all [look]) (by repeat (first | exact Sub.nil _ | refine Sub.cons rfl ?_))) (by repeat (first | exact List.Sublist.refl _ | exact List.nil_sublist _ | refine List.Sublist.cons_cons _ ?_ | refine List.Sublist.cons _ ?_))
                refine lst_assign rfl rfl ?_
                refine lst_nil ?_
                refine ex_block_normal ?_
                refine ex_then ?_
                refine cod_region ?_
                refine lst_move rfl rfl ?_
                refine lst_int rfl rfl rfl (fun w => bin_add w (wrap_i64' _ (by omega) (by omega))) ?_
                refine lst_assign rfl rfl ?_
                refine lst_nil ?_
                refine ex_round' (x + 1, decide ((E1 : Int) = 0) && decide (nn la p = 0)) ⟨by omega, hgood.trans ⟨fun h j hj => ?_, fun h => ?_⟩⟩ (by (try dsimp only); omega) (by repeat (first | exact Sub.nil _ | refine Sub.cons rfl ?_)) (by repeat (first | exact Pck.nil _ | exact Pck.refl _ | (apply Pck.cons; focus ((repeat (first | exact Rem.here _ | apply Rem.there)); done)) | refine Pck.skip _ ?_))
                · rcases Nat.lt_succ_iff_lt_or_eq.1 hj with h1 | rfl
                  · exact (hX.2.1 rfl) j h1
                  · rw [hmd]; exact h
                · have := h x (by omega)
                  rw [hmd] at this
                  exact this
              · skip
                obtain ⟨la, rfl⟩ : ∃ x, x = m := ⟨m, rfl⟩
                have hla64 := hm64
                have hgood : (decide ((E1 : Int) = 0) && decide (nn la p = 0)) = true ↔ ∃ g, followN ags la s.l = some g ∧ nn g p = 0 := by
                  rcases hfol with ⟨h1, h2, h3⟩ | ⟨h1, h3⟩
                  · rw [h1] at hc9
                    have hk0 : k = 0 := by
                      rcases Nat.eq_zero_or_pos k with h | h
                      · exact h
                      · rw [decide_eq_true (by omega), decide_eq_true (by omega)] at hc9; cases hc9
                    obtain rfl : os1 = [] := List.eq_nil_of_length_eq_zero (by omega)
                    rw [h3, h1]
                    simp [lastN]
                  · rw [h3, decide_eq_false (by omega)]
                    simp
                refine cod_skip ?_
                refine ex_then ?_
                refine cod_region ?_
                refine lst_cut1 7 101 (.bool (decide ((E1 : Int) = 0) && decide (nn la p = 0))) ?_ ?_
                · skip
                  refine lst_move rfl rfl ?_
                  refine lst_int rfl rfl rfl bin_eql ?_
                  refine lst_move rfl rfl ?_
                  refine lst_split_bool (t := 97) rfl (fun hg97 => ?_) (fun hg97 => ?_)
                  · skip
                    refine lst_on rfl rfl ?_
                    refine lst_move rfl rfl ?_
                    refine lst_on rfl rfl ?_
                    refine lst_move rfl rfl ?_
                    refine lst_on rfl rfl ?_
                    refine lst_fn0 (vs := [_, _]) rfl rfl F.ent37 (fun a w ha => Clear_c la p hla64 hp w) ?_
                    refine lst_pick_true rfl rfl rfl ?_
                    refine lst_nil ?_
                    exact ex_cut (.cons (by simp_all [look]) (by repeat (first | exact Sub.nil _ | refine Sub.cons rfl ?_))) (by repeat (first | exact List.Sublist.refl _ | exact List.nil_sublist _ | refine List.Sublist.cons_cons _ ?_ | refine List.Sublist.cons _ ?_))
                  · skip
                    refine lst_off rfl rfl rfl ?_
                    refine lst_off rfl rfl rfl ?_
                    refine lst_off rfl rfl rfl ?_
                    refine lst_pick_false rfl rfl rfl ?_
                    refine lst_nil ?_
                    exact ex_cut (.cons (by simp_all [look]) (by repeat (first | exact Sub.nil _ | refine Sub.cons rfl ?_))) (by repeat (first | exact List.Sublist.refl _ | exact List.nil_sublist _ | refine List.Sublist.cons_cons _ ?_ | refine List.Sublist.cons _ ?_))
                refine lst_assign rfl rfl ?_
                refine lst_nil ?_
                refine ex_block_normal ?_
                refine ex_then ?_
                refine cod_region ?_
                refine lst_move rfl rfl ?_
                refine lst_int rfl rfl rfl (fun w => bin_add w (wrap_i64' _ (by omega) (by omega))) ?_
                refine lst_assign rfl rfl ?_
                refine lst_nil ?_
                refine ex_round' (x + 1, decide ((E1 : Int) = 0) && decide (nn la p = 0)) ⟨by omega, hgood.trans ⟨fun h j hj => ?_, fun h => ?_⟩⟩ (by (try dsimp only); omega) (by repeat (first | exact Sub.nil _ | refine Sub.cons rfl ?_)) (by repeat (first | exact Pck.nil _ | exact Pck.refl _ | (apply Pck.cons; focus ((repeat (first | exact Rem.here _ | apply Rem.there)); done)) | refine Pck.skip _ ?_))
                · rcases Nat.lt_succ_iff_lt_or_eq.1 hj with h1 | rfl
                  · exact (hX.2.1 rfl) j h1
                  · rw [hmd]; exact h
                · have := h x (by omega)
                  rw [hmd] at this
                  exact this
            · skip
              have hP : al = true ↔ clearsM ags ms p s.l := by
                constructor
                · rintro rfl
                  rw [Bool.and_true, decide_eq_false_iff_not] at hc8
                  have h := hX.2.1 rfl
                  intro m hm
                  obtain ⟨j, hj, rfl⟩ := mem_getD.1 hm
                  exact h j (by omega)
                · intro h
                  exact hX.2.2 (fun j hj => h _ (mem_getD.2 ⟨j, by omega, rfl⟩))
              refine cod_exit ?_
              refine ex_then_exit ?_
              refine ex_then_exit ?_
              refine ex_block_exit ?_
              refine ex_then ?_
              refine cod_seq ?_
              refine cod_region ?_
              refine lst_move rfl rfl ?_
              refine lst_nil ?_
              refine ex_then ?_
              refine cod_cond_bool rfl (fun hc10 => ?_) (fun hc10 => ?_)
              · skip
                refine cod_seq ?_
                refine cod_region ?_
                refine lst_move rfl rfl ?_
                refine lst_move rfl rfl ?_
                refine lst_index (j := i) rfl rfl rfl Tryd.underlying49 F.ti25 rfl hil ?_
                refine lst_load_at (v := .slice s.A s.l.length s.c) rfl rfl F.one25 (fun a w ha => row_cell ha (InR.mem (A := (some ⟨gL, 0, none⟩))) rfl (by rw [Nat.zero_add]; exact vals_get hs)) ?_
                refine lst_assign rfl rfl ?_
                refine lst_assign rfl rfl ?_
                refine lst_nil ?_
                refine ex_then ?_
                refine cod_ret ?_
                refine ex_block_ret ?_
                refine ex_then_ret ?_
                refine ex_then_ret ?_
                refine ex_block_ret ?_
                refine ex_block_ret ?_
                refine ex_then_ret ?_
                refine ex_then_ret ?_
                refine ex_block_ret ?_
                refine ex_then_ret ?_
                have hfs := fsA_is (hi.2.found hk5 hsx (hP.1 hc10))
                rw [hfs]
                exact ex_ret rfl (fun a w ha => res_two rfl rfl rfl ha) (fun a w ha => ⟨s.A, s.c, rfl, (ha.grown (List.singleton_sublist.2 (List.mem_cons_of_mem _ (List.mem_append_left _ (List.mem_map.2 ⟨s, hsm, rfl⟩)))))⟩)
              · skip
                refine cod_skip ?_
                refine ex_block_normal ?_
                refine ex_then ?_
                refine cod_region ?_
                refine lst_move rfl rfl ?_
                refine lst_int rfl rfl rfl (fun w => bin_add w (wrap_i64' _ (by omega) (by omega))) ?_
                refine lst_assign rfl rfl ?_
                refine lst_nil ?_
                refine ex_round' (i + 1) ⟨by omega, hi.2.next hsx (fun h => by rw [hP.2 h] at hc10; cases hc10)⟩ (by (try dsimp only); omega) (by repeat (first | exact Sub.nil _ | refine Sub.cons rfl ?_)) (by repeat (first | exact Pck.nil _ | exact Pck.refl _ | (apply Pck.cons; focus ((repeat (first | exact Rem.here _ | apply Rem.there)); done)) | refine Pck.skip _ ?_))
          · skip
            have hseen := hi.2.round (by omega)
            refine cod_exit ?_
            refine ex_then_exit ?_
            refine ex_then_exit ?_
            refine ex_block_exit ?_
            refine ex_block_normal ?_
            refine ex_then ?_
            refine cod_region ?_
            refine lst_move rfl rfl ?_
            refine lst_int rfl rfl rfl (fun w => bin_add w (wrap_i64' _ (by omega) (by omega))) ?_
            refine lst_assign rfl rfl ?_
            refine lst_nil ?_
            refine ex_round (k + 1) ⟨by omega, hseen⟩ (by (try dsimp only); omega) (by repeat (first | exact Sub.nil _ | refine Sub.cons rfl ?_)) (by repeat (first | exact List.Sublist.refl _ | exact List.nil_sublist _ | refine List.Sublist.cons_cons _ ?_ | refine List.Sublist.cons _ ?_))
        · skip
          obtain rfl : k = 6 := by omega
          have hfs := fsA_is (hk.2.none_)
          refine cod_exit ?_
          refine ex_then_exit ?_
          refine ex_then_exit ?_
          refine ex_block_exit ?_
          refine ex_then ?_
          refine cod_seq ?_
          refine cod_region ?_
          refine lst_assign rfl rfl ?_
          refine lst_assign rfl rfl ?_
          refine lst_nil ?_
          refine ex_then ?_
          refine cod_ret ?_
          rw [hfs]
          exact ex_ret rfl (fun a w ha => res_two rfl rfl rfl ha) (fun a w ha => Says.nil ⟨rfl, ha.grown (List.nil_sublist _)⟩)

end Go.Proofs.YtofkhehcnfiopaaDoor.N
namespace Go.Proofs.YtofkhehcnfiopaaDoor.N
open Go Go.RowKit Go.Proofs
theorem followN_snoc2 {ags : List Ag} {i : Nat} : ∀ (u : List Nat) (f : Nat), followN ags f (u ++ [i]) = (followN ags f u).bind fun a => if i < ags.length ∧ mayN (ags.getD i default) a = true then some (putN (ags.getD i default) a) else none
  | [], f => by
    show (if i < ags.length ∧ mayN (ags.getD i default) f = true then followN ags (putN (ags.getD i default) f) [] else none) = _
    rfl
  | j :: u, f => by
    show (if j < ags.length ∧ mayN (ags.getD j default) f = true then followN ags (putN (ags.getD j default) f) (u ++ [i]) else none) = ((if j < ags.length ∧ mayN (ags.getD j default) f = true then followN ags (putN (ags.getD j default) f) u else none) : Option Nat).bind _
    by_cases h : j < ags.length ∧ mayN (ags.getD j default) f = true
    · rw [if_pos h, if_pos h]; exact followN_snoc2 u _
    · rw [if_neg h, if_neg h]; rfl
theorem PutS.zero_iff {ags : List Ag} {f E : Nat} {v outs : List Nat} (h : PutS ags f (castL v) outs E) (hl : v.length ≤ 20) : decide ((E : Int) = 0) = (followN ags f v).isSome := by
  rcases h.follow hl with ⟨h1, _, h3⟩ | ⟨h1, h3⟩
  · rw [h1, h3]; rfl
  · rw [h3, decide_eq_false (by omega)]; rfl
theorem tells_test {ags : List Ag} {f g k E1 E2 E3 E4 : Nat} {v o1 o2 o3 o4 : List Nat} (hl : v.length = k) (hw : ∀ i ∈ v, i < ags.length) (h1 : 1 ≤ k) (h5 : k ≤ 5)
    (hP1 : PutS ags f (castL (v.take (k - 1))) o1 E1) (hP2 : PutS ags g (castL (v.take (k - 1))) o2 E2) (hP3 : PutS ags f (castL v) o3 E3) (hP4 : PutS ags g (castL v) o4 E4) :
    ((decide ((E1 : Int) = 0) && decide ((E2 : Int) = 0)) && (decide ((E3 : Int) = 0) != decide ((E4 : Int) = 0))) = true ↔ tellsP ags f g v := by
  rw [hP1.zero_iff (by rw [List.length_take]; omega), hP2.zero_iff (by rw [List.length_take]; omega), hP3.zero_iff (by omega), hP4.zero_iff (by omega)]
  rcases snoc_cases v with rfl | ⟨u, i, rfl⟩
  · simp at hl; omega
  · have hu : (u ++ [i]).take (k - 1) = u := by
      have : k - 1 = u.length := by simp at hl; omega
      rw [this, List.take_left]
    have hi : i < ags.length := hw i (by simp)
    rw [hu, followN_snoc2, followN_snoc2]
    have key : ∀ a b, followN ags f u = some a → followN ags g u = some b → ((((followN ags f u).bind fun a => if i < ags.length ∧ mayN (ags.getD i default) a = true then some (putN (ags.getD i default) a) else none).isSome != ((followN ags g u).bind fun a => if i < ags.length ∧ mayN (ags.getD i default) a = true then some (putN (ags.getD i default) a) else none).isSome) = true ↔ mayN (ags.getD i default) a ≠ mayN (ags.getD i default) b) := by
      intro a b ha hb
      rw [ha, hb]
      simp only [Option.bind_some, hi, true_and]
      cases mayN (ags.getD i default) a <;> cases mayN (ags.getD i default) b <;> simp
    constructor
    · intro h
      rw [Bool.and_eq_true, Bool.and_eq_true] at h
      obtain ⟨a, ha⟩ := Option.isSome_iff_exists.1 h.1.1
      obtain ⟨b, hb⟩ := Option.isSome_iff_exists.1 h.1.2
      exact ⟨u, i, a, b, rfl, ha, hb, hi, (key a b ha hb).1 h.2⟩
    · rintro ⟨u', i', a, b, he, ha, hb, _, hd⟩
      obtain ⟨rfl, hii⟩ := List.append_inj' he rfl
      obtain rfl := List.singleton_inj.1 hii
      rw [Bool.and_eq_true, Bool.and_eq_true]
      exact ⟨⟨by rw [ha]; rfl, by rw [hb]; rfl⟩, (key a b ha hb).2 hd⟩
end Go.Proofs.YtofkhehcnfiopaaDoor.N
namespace Go.Proofs.YtofkhehcnfiopaaDoor.N
open Go Go.RowKit Go.Proofs

theorem rBoth_bad (A : Option Addr) (c : Nat) (l : List RA) (hn : checkR l ≠ 0) (mA : Option Addr) (ml mc : Nat) (p : Int) (w : World) (hA : RdL RA.cells 5 w A l) : Calls Tryd.prog 29 #[.slice A l.length c, .slice mA ml mc, .int .i64 p] w fun e w' => e = .returned (.tuple #[.slice none 0 0, .int .i64 ((checkR l : Nat) : Int)]) ∧ Grew w w' [] := by
  refine enter (N := 107) [(0, .slice A l.length c), (1, .slice mA ml mc), (2, .int .i64 p)] Tryd.func29 rfl Tryd.ntmps29 rfl rfl ?_
  refine cod_seq ?_
  refine cod_region ?_
  refine lst_assign rfl rfl ?_
  refine lst_assign rfl rfl ?_
  refine lst_nil ?_
  refine ex_then ?_
  refine cod_seq ?_
  refine cod_seq ?_
  refine cod_region ?_
  refine lst_move rfl rfl ?_
  refine lst_fn0 (vs := [_]) rfl rfl F.ent47 (fun a w ha => rcheck_c A c l w (hA.later ha.below)) ?_
  refine lst_assign rfl rfl ?_
  refine lst_nil ?_
  refine ex_then ?_
  refine cod_seq ?_
  refine cod_region ?_
  refine lst_move rfl rfl ?_
  refine lst_int rfl rfl rfl bin_neq ?_
  refine lst_nil ?_
  refine ex_then ?_
  refine cod_cond_dec rfl (fun hc0 => ?_) (fun hc0 => ?_)
  · skip
    refine cod_seq ?_
    refine cod_region ?_
    refine lst_move rfl rfl ?_
    refine lst_assign rfl rfl ?_
    refine lst_assign rfl rfl ?_
    refine lst_nil ?_
    refine ex_then ?_
    refine cod_ret ?_
    refine ex_then_ret ?_
    exact ex_ret rfl (fun a w ha => res_two rfl rfl rfl ha) (fun a w ha => ⟨rfl, ha.grown (List.nil_sublist _)⟩)
  · skip
    exact absurd hn (by omega) -- done

theorem rBoth_e7 (A : Option Addr) (c : Nat) (ags : List Ag) (hok : Oks ags) (mA : Option Addr) (mc : Nat) (ms : List Int) (p : Int) (h0 : ms.length = 0) (w : World) (hA : RdL Ag.cells 5 w A ags) : Calls Tryd.prog 29 #[.slice A ags.length c, .slice mA ms.length mc, .int .i64 p] w fun e w' => e = .returned (.tuple #[.slice none 0 0, .int .i64 7]) ∧ Grew w w' [] := by
  refine enter (N := 107) [(0, .slice A ags.length c), (1, .slice mA ms.length mc), (2, .int .i64 p)] Tryd.func29 rfl Tryd.ntmps29 rfl rfl ?_
  refine cod_seq ?_
  refine cod_region ?_
  refine lst_assign rfl rfl ?_
  refine lst_assign rfl rfl ?_
  refine lst_nil ?_
  refine ex_then ?_
  refine cod_seq ?_
  refine cod_seq ?_
  refine cod_region ?_
  refine lst_move rfl rfl ?_
  refine lst_fn0 (v := .int .i64 0) (vs := [_]) rfl rfl F.ent47 (fun a w ha => by
    have h := rcheck_c A c (ags.map Ag.raw) w (hA.raw.later ha.below)
    rw [List.length_map, checkR_raw hok] at h
    exact h) ?_
  refine lst_assign rfl rfl ?_
  refine lst_nil ?_
  refine ex_then ?_
  refine cod_seq ?_
  refine cod_region ?_
  refine lst_move rfl rfl ?_
  refine lst_int rfl rfl rfl bin_neq ?_
  refine lst_nil ?_
  refine ex_then ?_
  refine cod_cond_false rfl ?_
  refine cod_skip ?_
  refine ex_then ?_
  refine cod_seq ?_
  refine cod_seq ?_
  refine cod_region ?_
  refine lst_move rfl rfl ?_
  refine lst_len rfl rfl Tryd.underlying25 ?_
  refine lst_int rfl rfl rfl bin_eql ?_
  refine lst_nil ?_
  refine ex_then ?_
  refine cod_cond_dec rfl (fun hc1 => ?_) (fun hc1 => ?_)
  · skip
    refine cod_seq ?_
    refine cod_region ?_
    refine lst_assign rfl rfl ?_
    refine lst_assign rfl rfl ?_
    refine lst_nil ?_
    refine ex_then ?_
    refine cod_ret ?_
    refine ex_then_ret ?_
    exact ex_ret rfl (fun a w ha => res_two rfl rfl rfl ha) (fun a w ha => ⟨rfl, ha.grown (List.nil_sublist _)⟩)
  · skip
    exact absurd h0 (by omega) -- done

theorem rBoth_e6 (A : Option Addr) (c : Nat) (ags : List Ag) (hok : Oks ags) (mA : Option Addr) (mc : Nat) (ms : List Int) (p : Int) (h0 : 3 < ms.length) (w : World) (hA : RdL Ag.cells 5 w A ags) : Calls Tryd.prog 29 #[.slice A ags.length c, .slice mA ms.length mc, .int .i64 p] w fun e w' => e = .returned (.tuple #[.slice none 0 0, .int .i64 6]) ∧ Grew w w' [] := by
  refine enter (N := 107) [(0, .slice A ags.length c), (1, .slice mA ms.length mc), (2, .int .i64 p)] Tryd.func29 rfl Tryd.ntmps29 rfl rfl ?_
  refine cod_seq ?_
  refine cod_region ?_
  refine lst_assign rfl rfl ?_
  refine lst_assign rfl rfl ?_
  refine lst_nil ?_
  refine ex_then ?_
  refine cod_seq ?_
  refine cod_seq ?_
  refine cod_region ?_
  refine lst_move rfl rfl ?_
  refine lst_fn0 (v := .int .i64 0) (vs := [_]) rfl rfl F.ent47 (fun a w ha => by
    have h := rcheck_c A c (ags.map Ag.raw) w (hA.raw.later ha.below)
    rw [List.length_map, checkR_raw hok] at h
    exact h) ?_
  refine lst_assign rfl rfl ?_
  refine lst_nil ?_
  refine ex_then ?_
  refine cod_seq ?_
  refine cod_region ?_
  refine lst_move rfl rfl ?_
  refine lst_int rfl rfl rfl bin_neq ?_
  refine lst_nil ?_
  refine ex_then ?_
  refine cod_cond_false rfl ?_
  refine cod_skip ?_
  refine ex_then ?_
  refine cod_seq ?_
  refine cod_seq ?_
  refine cod_region ?_
  refine lst_move rfl rfl ?_
  refine lst_len rfl rfl Tryd.underlying25 ?_
  refine lst_int rfl rfl rfl bin_eql ?_
  refine lst_nil ?_
  refine ex_then ?_
  refine cod_cond_dec rfl (fun hc1 => ?_) (fun hc1 => ?_)
  · skip
    exact absurd h0 (by omega) -- done
  · skip
    refine cod_skip ?_
    refine ex_then ?_
    refine cod_seq ?_
    refine cod_seq ?_
    refine cod_region ?_
    refine lst_move rfl rfl ?_
    refine lst_len rfl rfl Tryd.underlying25 ?_
    refine lst_int rfl rfl rfl bin_gtr ?_
    refine lst_nil ?_
    refine ex_then ?_
    refine cod_cond_dec rfl (fun hc2 => ?_) (fun hc2 => ?_)
    · skip
      refine cod_seq ?_
      refine cod_region ?_
      refine lst_assign rfl rfl ?_
      refine lst_assign rfl rfl ?_
      refine lst_nil ?_
      refine ex_then ?_
      refine cod_ret ?_
      refine ex_then_ret ?_
      exact ex_ret rfl (fun a w ha => res_two rfl rfl rfl ha) (fun a w ha => ⟨rfl, ha.grown (List.nil_sublist _)⟩)
    · skip
      exact absurd h0 (by omega) -- done

theorem rBoth_m1 (A : Option Addr) (c : Nat) (ags : List Ag) (hok : Oks ags) (mA : Option Addr) (mc : Nat) (ms : List Int) (p : Int) (hm1 : 1 ≤ ms.length) (hm3 : ms.length ≤ 3) (hbad : ∃ m ∈ ms, inB m 0 63 = false) (w : World) (hA : RdL Ag.cells 5 w A ags) (hM : RdL icell 1 w mA ms) : Calls Tryd.prog 29 #[.slice A ags.length c, .slice mA ms.length mc, .int .i64 p] w fun e w' => e = .returned (.tuple #[.slice none 0 0, .int .i64 1]) ∧ Grew w w' [] := by
  refine enter (N := 107) [(0, .slice A ags.length c), (1, .slice mA ms.length mc), (2, .int .i64 p)] Tryd.func29 rfl Tryd.ntmps29 rfl rfl ?_
  refine cod_seq ?_
  refine cod_region ?_
  refine lst_assign rfl rfl ?_
  refine lst_assign rfl rfl ?_
  refine lst_nil ?_
  refine ex_then ?_
  refine cod_seq ?_
  refine cod_seq ?_
  refine cod_region ?_
  refine lst_move rfl rfl ?_
  refine lst_fn0 (v := .int .i64 0) (vs := [_]) rfl rfl F.ent47 (fun a w ha => by
    have h := rcheck_c A c (ags.map Ag.raw) w (hA.raw.later ha.below)
    rw [List.length_map, checkR_raw hok] at h
    exact h) ?_
  refine lst_assign rfl rfl ?_
  refine lst_nil ?_
  refine ex_then ?_
  refine cod_seq ?_
  refine cod_region ?_
  refine lst_move rfl rfl ?_
  refine lst_int rfl rfl rfl bin_neq ?_
  refine lst_nil ?_
  refine ex_then ?_
  refine cod_cond_false rfl ?_
  refine cod_skip ?_
  refine ex_then ?_
  refine cod_seq ?_
  refine cod_seq ?_
  refine cod_region ?_
  refine lst_move rfl rfl ?_
  refine lst_len rfl rfl Tryd.underlying25 ?_
  refine lst_int rfl rfl rfl bin_eql ?_
  refine lst_nil ?_
  refine ex_then ?_
  refine cod_cond_dec rfl (fun hc1 => ?_) (fun hc1 => ?_)
  · skip
    exact absurd hc1 (by omega) -- done
  · skip
    refine cod_skip ?_
    refine ex_then ?_
    refine cod_seq ?_
    refine cod_seq ?_
    refine cod_region ?_
    refine lst_move rfl rfl ?_
    refine lst_len rfl rfl Tryd.underlying25 ?_
    refine lst_int rfl rfl rfl bin_gtr ?_
    refine lst_nil ?_
    refine ex_then ?_
    refine cod_cond_dec rfl (fun hc2 => ?_) (fun hc2 => ?_)
    · skip
      exact absurd hc2 (by omega) -- done
    · skip
      refine cod_skip ?_
      refine ex_then ?_
      refine cod_seq ?_
      refine cod_seq ?_
      refine cod_region ?_
      refine lst_assign rfl rfl ?_
      refine lst_nil ?_
      refine ex_then ?_
      refine cod_block ?_
      refine cod_loop (G := Nat) (fun k => k ≤ ms.length ∧ ∀ y ∈ ms.take k, inB y 0 63 = true) (fun k => ms.length - k) (fun k => [(0, .slice A ags.length c), (1, .slice mA ms.length mc), (2, .int .i64 p), (9, .int .i64 (k : Int))]) (fun k => []) 0 ⟨Nat.zero_le _, by simp⟩ (by repeat (first | exact Sub.nil _ | refine Sub.cons rfl ?_)) (by repeat (first | exact List.Sublist.refl _ | exact List.nil_sublist _ | refine List.Sublist.cons_cons _ ?_ | refine List.Sublist.cons _ ?_)) ?_
      intro k hk
      (try dsimp only at hk ⊢)
      refine cod_seq ?_
      refine cod_seq ?_
      refine cod_region ?_
      refine lst_move rfl rfl ?_
      refine lst_move rfl rfl ?_
      refine lst_len rfl rfl Tryd.underlying25 ?_
      refine lst_int rfl rfl rfl bin_lss ?_
      refine lst_nil ?_
      refine ex_then ?_
      refine cod_cond_dec rfl (fun hc3 => ?_) (fun hc3 => ?_)
      · skip
        have hx' : k < ms.length := by omega
        obtain ⟨b, o, rfl, hb, hcell⟩ := hM (by omega)
        obtain ⟨m, hx⟩ : ∃ m, ms[k]? = some m := ⟨_, List.getElem?_eq_getElem hx'⟩
        refine cod_skip ?_
        refine ex_then ?_
        refine cod_seq ?_
        refine cod_block ?_
        refine cod_seq ?_
        refine cod_region ?_
        refine lst_move rfl rfl ?_
        refine lst_move rfl rfl ?_
        refine lst_index (j := k) rfl rfl rfl Tryd.underlying25 F.ti3 rfl hx' ?_
        refine lst_load_at (v := .int .i64 m) rfl rfl F.one3 (fun a w ha => ha.old (hcell k m hx 0 _ rfl) hb) ?_
        refine lst_fn0 (vs := [_, _, _]) rfl rfl F.ent82 (fun a w ha => among_c m 0 63 w) ?_
        refine lst_not rfl rfl ?_
        refine lst_nil ?_
        refine ex_then ?_
        refine cod_cond_bool rfl (fun hc4 => ?_) (fun hc4 => ?_)
        · skip
          refine cod_seq ?_
          refine cod_region ?_
          refine lst_assign rfl rfl ?_
          refine lst_assign rfl rfl ?_
          refine lst_nil ?_
          refine ex_then ?_
          refine cod_ret ?_
          refine ex_block_ret ?_
          refine ex_then_ret ?_
          refine ex_then_ret ?_
          refine ex_block_ret ?_
          refine ex_then_ret ?_
          exact ex_ret rfl (fun a w ha => res_two rfl rfl rfl ha) (fun a w ha => ⟨rfl, ha.grown (List.nil_sublist _)⟩)
        · skip
          refine cod_skip ?_
          refine ex_block_normal ?_
          refine ex_then ?_
          refine cod_region ?_
          refine lst_move rfl rfl ?_
          refine lst_int rfl rfl rfl (fun w => bin_add w (wrap_i64' _ (by omega) (by omega))) ?_
          refine lst_assign rfl rfl ?_
          refine lst_nil ?_
          have htake : ms.take (k + 1) = ms.take k ++ [m] := by rw [List.take_add_one, hx]; rfl
          have hin0 : inB m 0 63 = true := by simpa using hc4
          refine ex_round (k + 1) ⟨by omega, by rw [htake]; intro y hy; rcases List.mem_append.1 hy with h | h; exact hk.2 y h; simp at h; subst h; exact hin0⟩ (by (try dsimp only); omega) (by repeat (first | exact Sub.nil _ | refine Sub.cons rfl ?_)) (by repeat (first | exact List.Sublist.refl _ | exact List.nil_sublist _ | refine List.Sublist.cons_cons _ ?_ | refine List.Sublist.cons _ ?_))
      · skip
        exact absurd hbad (fun ⟨m, hm, h0⟩ => by
          have h := hk.2
          rw [List.take_of_length_le (by omega)] at h
          rw [h m hm] at h0
          cases h0) -- done

theorem rBoth_p1 (A : Option Addr) (c : Nat) (ags : List Ag) (hok : Oks ags) (mA : Option Addr) (mc : Nat) (ms : List Nat) (p : Int) (hm1 : 1 ≤ ms.length) (hm3 : ms.length ≤ 3) (hms : ∀ m ∈ ms, m < 64) (hp : inB p 0 63 = false) (w : World) (hA : RdL Ag.cells 5 w A ags) (hM : RdL ncell 1 w mA ms) : Calls Tryd.prog 29 #[.slice A ags.length c, .slice mA ms.length mc, .int .i64 p] w fun e w' => e = .returned (.tuple #[.slice none 0 0, .int .i64 1]) ∧ Grew w w' [] := by
  refine enter (N := 107) [(0, .slice A ags.length c), (1, .slice mA ms.length mc), (2, .int .i64 p)] Tryd.func29 rfl Tryd.ntmps29 rfl rfl ?_
  refine cod_seq ?_
  refine cod_region ?_
  refine lst_assign rfl rfl ?_
  refine lst_assign rfl rfl ?_
  refine lst_nil ?_
  refine ex_then ?_
  refine cod_seq ?_
  refine cod_seq ?_
  refine cod_region ?_
  refine lst_move rfl rfl ?_
  refine lst_fn0 (v := .int .i64 0) (vs := [_]) rfl rfl F.ent47 (fun a w ha => by
    have h := rcheck_c A c (ags.map Ag.raw) w (hA.raw.later ha.below)
    rw [List.length_map, checkR_raw hok] at h
    exact h) ?_
  refine lst_assign rfl rfl ?_
  refine lst_nil ?_
  refine ex_then ?_
  refine cod_seq ?_
  refine cod_region ?_
  refine lst_move rfl rfl ?_
  refine lst_int rfl rfl rfl bin_neq ?_
  refine lst_nil ?_
  refine ex_then ?_
  refine cod_cond_false rfl ?_
  refine cod_skip ?_
  refine ex_then ?_
  refine cod_seq ?_
  refine cod_seq ?_
  refine cod_region ?_
  refine lst_move rfl rfl ?_
  refine lst_len rfl rfl Tryd.underlying25 ?_
  refine lst_int rfl rfl rfl bin_eql ?_
  refine lst_nil ?_
  refine ex_then ?_
  refine cod_cond_dec rfl (fun hc1 => ?_) (fun hc1 => ?_)
  · skip
    exact absurd hc1 (by omega) -- done
  · skip
    refine cod_skip ?_
    refine ex_then ?_
    refine cod_seq ?_
    refine cod_seq ?_
    refine cod_region ?_
    refine lst_move rfl rfl ?_
    refine lst_len rfl rfl Tryd.underlying25 ?_
    refine lst_int rfl rfl rfl bin_gtr ?_
    refine lst_nil ?_
    refine ex_then ?_
    refine cod_cond_dec rfl (fun hc2 => ?_) (fun hc2 => ?_)
    · skip
      exact absurd hc2 (by omega) -- done
    · skip
      refine cod_skip ?_
      refine ex_then ?_
      refine cod_seq ?_
      refine cod_seq ?_
      refine cod_region ?_
      refine lst_assign rfl rfl ?_
      refine lst_nil ?_
      refine ex_then ?_
      refine cod_block ?_
      refine cod_loop (G := Nat) (fun k => k ≤ ms.length) (fun k => ms.length - k) (fun k => [(0, .slice A ags.length c), (1, .slice mA ms.length mc), (2, .int .i64 p), (9, .int .i64 (k : Int))]) (fun k => []) 0 (Nat.zero_le _) (by repeat (first | exact Sub.nil _ | refine Sub.cons rfl ?_)) (by repeat (first | exact List.Sublist.refl _ | exact List.nil_sublist _ | refine List.Sublist.cons_cons _ ?_ | refine List.Sublist.cons _ ?_)) ?_
      intro k hk
      (try dsimp only at hk ⊢)
      refine cod_seq ?_
      refine cod_seq ?_
      refine cod_region ?_
      refine lst_move rfl rfl ?_
      refine lst_move rfl rfl ?_
      refine lst_len rfl rfl Tryd.underlying25 ?_
      refine lst_int rfl rfl rfl bin_lss ?_
      refine lst_nil ?_
      refine ex_then ?_
      refine cod_cond_dec rfl (fun hc3 => ?_) (fun hc3 => ?_)
      · skip
        have hx' : k < ms.length := by omega
        obtain ⟨b, o, rfl, hb, hcell⟩ := hM (by omega)
        obtain ⟨m, hx⟩ : ∃ m, ms[k]? = some m := ⟨_, List.getElem?_eq_getElem hx'⟩
        have hm64 := hms m (List.mem_of_getElem? hx)
        have hmd : ms.getD k 0 = m := by rw [List.getD_eq_getElem?_getD, hx]; rfl
        refine cod_skip ?_
        refine ex_then ?_
        refine cod_seq ?_
        refine cod_block ?_
        refine cod_seq ?_
        refine cod_region ?_
        refine lst_move rfl rfl ?_
        refine lst_move rfl rfl ?_
        refine lst_index (j := k) rfl rfl rfl Tryd.underlying25 F.ti3 rfl hx' ?_
        refine lst_load_at (v := .int .i64 (m : Int)) rfl rfl F.one3 (fun a w ha => ha.old (hcell k m hx 0 _ rfl) hb) ?_
        refine lst_fn0 (v := .bool true) (vs := [_, _, _]) rfl rfl F.ent82 (fun a w ha => by
          have h := among_c (m : Int) 0 63 w
          rw [inB_true.2 (by omega)] at h
          exact h) ?_
        refine lst_not rfl rfl ?_
        refine lst_nil ?_
        refine ex_then ?_
        refine cod_cond_false rfl ?_
        refine cod_skip ?_
        refine ex_block_normal ?_
        refine ex_then ?_
        refine cod_region ?_
        refine lst_move rfl rfl ?_
        refine lst_int rfl rfl rfl (fun w => bin_add w (wrap_i64' _ (by omega) (by omega))) ?_
        refine lst_assign rfl rfl ?_
        refine lst_nil ?_
        refine ex_round (k + 1) (by omega) (by (try dsimp only); omega) (by repeat (first | exact Sub.nil _ | refine Sub.cons rfl ?_)) (by repeat (first | exact List.Sublist.refl _ | exact List.nil_sublist _ | refine List.Sublist.cons_cons _ ?_ | refine List.Sublist.cons _ ?_))
      · skip
        refine cod_exit ?_
        refine ex_then_exit ?_
        refine ex_then_exit ?_
        refine ex_block_exit ?_
        refine ex_then ?_
        refine cod_seq ?_
        refine cod_seq ?_
        refine cod_region ?_
        refine lst_move rfl rfl ?_
        refine lst_fn0 (v := .bool false) (vs := [_, _, _]) rfl rfl F.ent82 (fun a w ha => by
          have h := among_c p 0 63 w
          rw [hp] at h
          exact h) ?_
        refine lst_not rfl rfl ?_
        refine lst_nil ?_
        refine ex_then ?_
        refine cod_cond_true rfl ?_
        refine cod_seq ?_
        refine cod_region ?_
        refine lst_assign rfl rfl ?_
        refine lst_assign rfl rfl ?_
        refine lst_nil ?_
        refine ex_then ?_
        refine cod_ret ?_
        refine ex_then_ret ?_
        exact ex_ret rfl (fun a w ha => res_two rfl rfl rfl ha) (fun a w ha => ⟨rfl, ha.grown (List.nil_sublist _)⟩)

theorem rTells_bad (A : Option Addr) (c : Nat) (l : List RA) (m : Int) (p : Int) (hn : askedR l m p ≠ 0) (w : World) (hA : RdL RA.cells 5 w A l) : Calls Tryd.prog 31 #[.slice A l.length c, .int .i64 m, .int .i64 p] w fun e w' => e = .returned (.tuple #[.slice none 0 0, .int .i64 ((askedR l m p : Nat) : Int)]) ∧ Grew w w' [] := by
  refine enter (N := 104) [(0, .slice A l.length c), (1, .int .i64 m), (2, .int .i64 p)] Tryd.func31 rfl Tryd.ntmps31 rfl rfl ?_
  refine cod_seq ?_
  refine cod_region ?_
  refine lst_assign rfl rfl ?_
  refine lst_assign rfl rfl ?_
  refine lst_nil ?_
  refine ex_then ?_
  refine cod_seq ?_
  refine cod_seq ?_
  refine cod_region ?_
  refine lst_move rfl rfl ?_
  refine lst_move rfl rfl ?_
  refine lst_move rfl rfl ?_
  refine lst_fn0 (vs := [_, _, _]) rfl rfl F.ent86 (fun a w ha => asked_c A c l m p w (hA.later ha.below)) ?_
  refine lst_assign rfl rfl ?_
  refine lst_nil ?_
  refine ex_then ?_
  refine cod_seq ?_
  refine cod_region ?_
  refine lst_move rfl rfl ?_
  refine lst_int rfl rfl rfl bin_neq ?_
  refine lst_nil ?_
  refine ex_then ?_
  refine cod_cond_dec rfl (fun hc0 => ?_) (fun hc0 => ?_)
  · skip
    refine cod_seq ?_
    refine cod_region ?_
    refine lst_move rfl rfl ?_
    refine lst_assign rfl rfl ?_
    refine lst_assign rfl rfl ?_
    refine lst_nil ?_
    refine ex_then ?_
    refine cod_ret ?_
    refine ex_then_ret ?_
    exact ex_ret rfl (fun a w ha => res_two rfl rfl rfl ha) (fun a w ha => ⟨rfl, ha.grown (List.nil_sublist _)⟩)
  · skip
    exact absurd hn (by omega) -- done

theorem rTells_ok (A : Option Addr) (c : Nat) (ags : List Ag) (hok : Oks ags) (f g : Nat) (hf : f < 64) (hg : g < 64) (w : World) (hA : RdL Ag.cells 5 w A ags) : Calls Tryd.prog 31 #[.slice A ags.length c, .int .i64 (f : Int), .int .i64 (g : Int)] w fun e w' => Says w (fsA ags.length (tellsP ags f g) 5).1 (fsA ags.length (tellsP ags f g) 5).2 e w' := by
  refine enter (N := 104) [(0, .slice A ags.length c), (1, .int .i64 (f : Int)), (2, .int .i64 (g : Int))] Tryd.func31 rfl Tryd.ntmps31 rfl rfl ?_
  refine cod_seq ?_
  refine cod_region ?_
  refine lst_assign rfl rfl ?_
  refine lst_assign rfl rfl ?_
  refine lst_nil ?_
  refine ex_then ?_
  refine cod_seq ?_
  refine cod_seq ?_
  refine cod_region ?_
  refine lst_move rfl rfl ?_
  refine lst_move rfl rfl ?_
  refine lst_move rfl rfl ?_
  refine lst_fn0 (v := .int .i64 0) (vs := [_, _, _]) rfl rfl F.ent86 (fun a w ha => by
    have h := asked_c A c (ags.map Ag.raw) (f : Int) (g : Int) w (hA.raw.later ha.below)
    rw [List.length_map, askedR_ok hok hf (by omega)] at h
    exact h) ?_
  refine lst_assign rfl rfl ?_
  refine lst_nil ?_
  refine ex_then ?_
  refine cod_seq ?_
  refine cod_region ?_
  refine lst_move rfl rfl ?_
  refine lst_int rfl rfl rfl bin_neq ?_
  refine lst_nil ?_
  refine ex_then ?_
  refine cod_cond_false rfl ?_
  refine cod_skip ?_
  refine ex_then ?_
  refine cod_seq ?_
  refine cod_seq ?_
  refine cod_region ?_
  refine lst_assign rfl rfl ?_
  refine lst_nil ?_
  refine ex_then ?_
  refine cod_block ?_
  refine cod_loop (G := Nat) (fun k => 1 ≤ k ∧ k ≤ 6 ∧ SeenS ags.length (tellsP ags f g) k 0) (fun k => 6 - k) (fun k => [(0, .slice A ags.length c), (1, .int .i64 (f : Int)), (2, .int .i64 (g : Int)), (9, .int .i64 (k : Int))]) (fun k => []) 1 ⟨Nat.le_refl _, by omega, .start1 (fun ⟨u, i, _, _, h, _⟩ => by simp at h)⟩ (by repeat (first | exact Sub.nil _ | refine Sub.cons rfl ?_)) (by repeat (first | exact List.Sublist.refl _ | exact List.nil_sublist _ | refine List.Sublist.cons_cons _ ?_ | refine List.Sublist.cons _ ?_)) ?_
  intro k hk
  (try dsimp only at hk ⊢)
  refine cod_seq ?_
  refine cod_seq ?_
  refine cod_region ?_
  refine lst_move rfl rfl ?_
  refine lst_int rfl rfl rfl bin_leq ?_
  refine lst_nil ?_
  refine ex_then ?_
  refine cod_cond_dec rfl (fun hc1 => ?_) (fun hc1 => ?_)
  · skip
    have hk5 : k ≤ 5 := by omega
    have h4 := hok.1
    refine cod_skip ?_
    refine ex_then ?_
    refine cod_seq ?_
    refine cod_block ?_
    refine cod_seq ?_
    refine cod_region ?_
    refine lst_move rfl rfl ?_
    refine lst_len rfl rfl Tryd.underlying22 ?_
    refine lst_move rfl rfl ?_
    refine lst_fn (X := List Sl × Option Addr × Nat) (vs := [_, _]) (p := fun y => y.1.map Sl.l = strs ags.length k) (val := fun y => .slice y.2.1 y.1.length y.2.2) (rs := fun y => .row 25 1 y.2.1 y.1.length y.2.2 (y.1.map Sl.val) :: y.1.map Sl.res) rfl rfl F.ent83 (fun a w ha => (lists_c ags.length hok.1 k (by omega) w).mono (fun e w' h => by obtain ⟨Ls, A', c', h1, h2, h3⟩ := h; exact ⟨(Ls, A', c'), h1, h2, h3⟩)) ?_
    rintro ⟨Ls, lA, lc⟩ hLs
    dsimp only [List.cons_append] at hLs ⊢
    have hLl : Ls.length = (strs ags.length k).length := by rw [← hLs, List.length_map]
    refine lst_assign rfl rfl ?_
    refine lst_nil ?_
    refine ex_then ?_
    refine cod_seq ?_
    refine cod_region ?_
    refine lst_assign rfl rfl ?_
    refine lst_nil ?_
    refine ex_then ?_
    refine cod_block ?_
    refine cod_loop' (G := Nat) (fun q => q ≤ Ls.length ∧ SeenS ags.length (tellsP ags f g) k q) (fun q => Ls.length - q) (fun q => [(0, .slice A ags.length c), (1, .int .i64 (f : Int)), (2, .int .i64 (g : Int)), (9, .int .i64 (k : Int)), (10, .slice lA Ls.length lc), (11, .int .i64 (q : Int))]) (fun q => .row 25 1 lA Ls.length lc (Ls.map Sl.val) :: (Ls.map Sl.res ++ [])) (0) ⟨Nat.zero_le _, hk.2.2⟩ (by repeat (first | exact Sub.nil _ | refine Sub.cons rfl ?_)) (by repeat (first | exact Pck.nil _ | exact Pck.refl _ | (apply Pck.cons; focus ((repeat (first | exact Rem.here _ | apply Rem.there)); done)) | refine Pck.skip _ ?_)) ?_
    rintro i hi
    (try dsimp only at hi ⊢)
    refine cod_seq ?_
    refine cod_seq ?_
    refine cod_region ?_
    refine lst_move rfl rfl ?_
    refine lst_move rfl rfl ?_
    refine lst_len rfl rfl Tryd.underlying49 ?_
    refine lst_int rfl rfl rfl bin_lss ?_
    refine lst_nil ?_
    refine ex_then ?_
    refine cod_cond_dec rfl (fun hc2 => ?_) (fun hc2 => ?_)
    · skip
      have hil : i < Ls.length := by omega
      have hL1 := strs_le (n := ags.length) (k := k) (by omega) hk5
      obtain ⟨s, hs⟩ : ∃ s, Ls[i]? = some s := ⟨_, List.getElem?_eq_getElem hil⟩
      have hsx : (strs ags.length k)[i]? = some s.l := by rw [← hLs, List.getElem?_map, hs]; rfl
      have hsm : s ∈ Ls := List.mem_of_getElem? hs
      obtain ⟨hsl, hsw⟩ := strs_mem (List.mem_of_getElem? hsx)
      refine cod_know (φ := ∃ g, lA = some ⟨g, 0, none⟩) (fun a w ha => row_some (ha.own _ (InR.mem (A := lA))) (by omega)) (fun hgL => ?_)
      obtain ⟨gL, rfl⟩ := hgL
      refine cod_know (φ := s.l.length ≤ s.c) (fun a w ha => ha.cap_le (A := s.A) (e := 3) (size := 1) (xs := ints s.l) (by have hm : Res.row 3 1 s.A s.l.length s.c (ints s.l) ∈ Ls.map Sl.res := List.mem_map.2 ⟨s, hsm, rfl⟩; simp [hm])) (fun hcap => ?_)
      refine cod_skip ?_
      refine ex_then ?_
      refine cod_seq ?_
      refine cod_block ?_
      refine cod_seq ?_
      refine cod_region ?_
      refine lst_move rfl rfl ?_
      refine lst_move rfl rfl ?_
      refine lst_move rfl rfl ?_
      refine lst_move rfl rfl ?_
      refine lst_index (j := i) rfl rfl rfl Tryd.underlying49 F.ti25 rfl hil ?_
      refine lst_load_at (v := .slice s.A s.l.length s.c) rfl rfl F.one25 (fun a w ha => row_cell ha (InR.mem (A := (some ⟨gL, 0, none⟩))) rfl (by rw [Nat.zero_add]; exact vals_get hs)) ?_
      refine lst_move rfl rfl ?_
      refine lst_int rfl rfl rfl (fun w => bin_sub w (show IntKind.i64.wrap ((k : Int) - 1) = ((k - 1 : Nat) : Int) from by rw [wrap_i64' _ (by omega) (by omega)]; omega)) ?_
      refine lst_slice_h (h := k - 1) rfl rfl rfl Tryd.underlying25 F.ti3 rfl (by omega) ?_
      refine lst_fn (X := List Nat × Nat × Option Addr × Nat) (vs := [_, _, _]) (p := fun y => PutS ags f (castL (s.l.take (k - 1))) y.1 y.2.1) (val := fun y => .tuple #[.slice y.2.2.1 y.1.length y.2.2.2, .int .i64 (y.2.1 : Int)]) (rs := fun y => [.row 3 1 y.2.2.1 y.1.length y.2.2.2 (ints y.1)]) rfl rfl F.ent45 (fun a w ha => by
        have h := rPut_ok A s.A c s.c ags hok f hf (castL (s.l.take (k - 1))) w (hA.later ha.below) (RdL.cast (RdL.take (row_reads ha (cells := ncell) (size := 1) (e := 3) (c := s.c) (n := s.l.length) (fun _ => rfl) (by have hm : s.res ∈ Ls.map Sl.res := List.mem_map.2 ⟨s, hsm, rfl⟩; rw [← ints_flat]; simp [hm, ← show s.res = Res.row 3 1 s.A s.l.length s.c (ints s.l) from rfl]) rfl) (k - 1)))
        rw [castL_len, List.length_take, show min (k - 1) s.l.length = k - 1 by omega] at h
        exact h.mono (fun e w' h => by obtain ⟨o, E, A', c', h1, h2, h3⟩ := h; exact ⟨(o, E, A', c'), h1, h2, h3⟩)) ?_
      rintro ⟨os1, E1, oA1, oc1⟩ hP1
      dsimp only [List.cons_append, List.nil_append] at hP1 ⊢
      refine lst_move rfl rfl ?_
      refine lst_extract rfl rfl rfl ?_
      refine lst_extract rfl rfl rfl ?_
      refine lst_assign rfl rfl ?_
      refine lst_assign rfl rfl ?_
      refine lst_nil ?_
      refine ex_then ?_
      refine cod_seq ?_
      refine cod_region ?_
      refine lst_move rfl rfl ?_
      refine lst_move rfl rfl ?_
      refine lst_move rfl rfl ?_
      refine lst_move rfl rfl ?_
      refine lst_index (j := i) rfl rfl rfl Tryd.underlying49 F.ti25 rfl hil ?_
      refine lst_load_at (v := .slice s.A s.l.length s.c) rfl rfl F.one25 (fun a w ha => row_cell ha (InR.mem (A := (some ⟨gL, 0, none⟩))) rfl (by rw [Nat.zero_add]; exact vals_get hs)) ?_
      refine lst_move rfl rfl ?_
      refine lst_int rfl rfl rfl (fun w => bin_sub w (show IntKind.i64.wrap ((k : Int) - 1) = ((k - 1 : Nat) : Int) from by rw [wrap_i64' _ (by omega) (by omega)]; omega)) ?_
      refine lst_slice_h (h := k - 1) rfl rfl rfl Tryd.underlying25 F.ti3 rfl (by omega) ?_
      refine lst_fn (X := List Nat × Nat × Option Addr × Nat) (vs := [_, _, _]) (p := fun y => PutS ags g (castL (s.l.take (k - 1))) y.1 y.2.1) (val := fun y => .tuple #[.slice y.2.2.1 y.1.length y.2.2.2, .int .i64 (y.2.1 : Int)]) (rs := fun y => [.row 3 1 y.2.2.1 y.1.length y.2.2.2 (ints y.1)]) rfl rfl F.ent45 (fun a w ha => by
        have h := rPut_ok A s.A c s.c ags hok g hg (castL (s.l.take (k - 1))) w (hA.later ha.below) (RdL.cast (RdL.take (row_reads ha (cells := ncell) (size := 1) (e := 3) (c := s.c) (n := s.l.length) (fun _ => rfl) (by have hm : s.res ∈ Ls.map Sl.res := List.mem_map.2 ⟨s, hsm, rfl⟩; rw [← ints_flat]; simp [hm, ← show s.res = Res.row 3 1 s.A s.l.length s.c (ints s.l) from rfl]) rfl) (k - 1)))
        rw [castL_len, List.length_take, show min (k - 1) s.l.length = k - 1 by omega] at h
        exact h.mono (fun e w' h => by obtain ⟨o, E, A', c', h1, h2, h3⟩ := h; exact ⟨(o, E, A', c'), h1, h2, h3⟩)) ?_
      rintro ⟨os2, E2, oA2, oc2⟩ hP2
      dsimp only [List.cons_append, List.nil_append] at hP2 ⊢
      refine lst_move rfl rfl ?_
      refine lst_extract rfl rfl rfl ?_
      refine lst_extract rfl rfl rfl ?_
      refine lst_assign rfl rfl ?_
      refine lst_assign rfl rfl ?_
      refine lst_nil ?_
      refine ex_then ?_
      refine cod_seq ?_
      refine cod_region ?_
      refine lst_move rfl rfl ?_
      refine lst_move rfl rfl ?_
      refine lst_move rfl rfl ?_
      refine lst_move rfl rfl ?_
      refine lst_index (j := i) rfl rfl rfl Tryd.underlying49 F.ti25 rfl hil ?_
      refine lst_load_at (v := .slice s.A s.l.length s.c) rfl rfl F.one25 (fun a w ha => row_cell ha (InR.mem (A := (some ⟨gL, 0, none⟩))) rfl (by rw [Nat.zero_add]; exact vals_get hs)) ?_
      refine lst_fn (X := List Nat × Nat × Option Addr × Nat) (vs := [_, _, _]) (p := fun y => PutS ags f (castL (s.l)) y.1 y.2.1) (val := fun y => .tuple #[.slice y.2.2.1 y.1.length y.2.2.2, .int .i64 (y.2.1 : Int)]) (rs := fun y => [.row 3 1 y.2.2.1 y.1.length y.2.2.2 (ints y.1)]) rfl rfl F.ent45 (fun a w ha => by
        have h := rPut_ok A s.A c s.c ags hok f hf (castL (s.l)) w (hA.later ha.below) (RdL.cast (row_reads ha (cells := ncell) (size := 1) (e := 3) (c := s.c) (n := s.l.length) (fun _ => rfl) (by have hm : s.res ∈ Ls.map Sl.res := List.mem_map.2 ⟨s, hsm, rfl⟩; rw [← ints_flat]; simp [hm, ← show s.res = Res.row 3 1 s.A s.l.length s.c (ints s.l) from rfl]) rfl))
        rw [castL_len] at h
        exact h.mono (fun e w' h => by obtain ⟨o, E, A', c', h1, h2, h3⟩ := h; exact ⟨(o, E, A', c'), h1, h2, h3⟩)) ?_
      rintro ⟨os3, E3, oA3, oc3⟩ hP3
      dsimp only [List.cons_append, List.nil_append] at hP3 ⊢
      refine lst_move rfl rfl ?_
      refine lst_extract rfl rfl rfl ?_
      refine lst_extract rfl rfl rfl ?_
      refine lst_assign rfl rfl ?_
      refine lst_assign rfl rfl ?_
      refine lst_nil ?_
      refine ex_then ?_
      refine cod_seq ?_
      refine cod_region ?_
      refine lst_move rfl rfl ?_
      refine lst_move rfl rfl ?_
      refine lst_move rfl rfl ?_
      refine lst_move rfl rfl ?_
      refine lst_index (j := i) rfl rfl rfl Tryd.underlying49 F.ti25 rfl hil ?_
      refine lst_load_at (v := .slice s.A s.l.length s.c) rfl rfl F.one25 (fun a w ha => row_cell ha (InR.mem (A := (some ⟨gL, 0, none⟩))) rfl (by rw [Nat.zero_add]; exact vals_get hs)) ?_
      refine lst_fn (X := List Nat × Nat × Option Addr × Nat) (vs := [_, _, _]) (p := fun y => PutS ags g (castL (s.l)) y.1 y.2.1) (val := fun y => .tuple #[.slice y.2.2.1 y.1.length y.2.2.2, .int .i64 (y.2.1 : Int)]) (rs := fun y => [.row 3 1 y.2.2.1 y.1.length y.2.2.2 (ints y.1)]) rfl rfl F.ent45 (fun a w ha => by
        have h := rPut_ok A s.A c s.c ags hok g hg (castL (s.l)) w (hA.later ha.below) (RdL.cast (row_reads ha (cells := ncell) (size := 1) (e := 3) (c := s.c) (n := s.l.length) (fun _ => rfl) (by have hm : s.res ∈ Ls.map Sl.res := List.mem_map.2 ⟨s, hsm, rfl⟩; rw [← ints_flat]; simp [hm, ← show s.res = Res.row 3 1 s.A s.l.length s.c (ints s.l) from rfl]) rfl))
        rw [castL_len] at h
        exact h.mono (fun e w' h => by obtain ⟨o, E, A', c', h1, h2, h3⟩ := h; exact ⟨(o, E, A', c'), h1, h2, h3⟩)) ?_
      rintro ⟨os4, E4, oA4, oc4⟩ hP4
      dsimp only [List.cons_append, List.nil_append] at hP4 ⊢
      refine lst_move rfl rfl ?_
      refine lst_extract rfl rfl rfl ?_
      refine lst_extract rfl rfl rfl ?_
      refine lst_assign rfl rfl ?_
      refine lst_assign rfl rfl ?_
      refine lst_nil ?_
      refine ex_then ?_
      refine cod_seq ?_
      refine cod_region ?_
      refine lst_cut1 13 99 (.bool ((decide ((E1 : Int) = 0) && decide ((E2 : Int) = 0)) && (decide ((E3 : Int) = 0) != decide ((E4 : Int) = 0)))) ?_ ?_
      · skip
        refine lst_move rfl rfl ?_
        refine lst_int rfl rfl rfl bin_eql ?_
        refine lst_move rfl rfl ?_
        refine lst_split_bool (t := 89) rfl (fun hg89 => ?_) (fun hg89 => ?_)
        · skip
          refine lst_on rfl rfl ?_
          refine lst_move rfl rfl ?_
          refine lst_on rfl rfl ?_
          refine lst_int rfl rfl rfl bin_eql ?_
          refine lst_pick_true rfl rfl rfl ?_
          refine lst_move rfl rfl ?_
          refine lst_split_bool (t := 93) rfl (fun hg93 => ?_) (fun hg93 => ?_)
          · skip
            refine lst_on rfl rfl ?_
            refine lst_move rfl rfl ?_
            refine lst_on rfl rfl ?_
            refine lst_int rfl rfl rfl bin_eql ?_
            refine lst_on rfl rfl ?_
            refine lst_move rfl rfl ?_
            refine lst_on rfl rfl ?_
            refine lst_int rfl rfl rfl bin_eql ?_
            refine lst_on rfl rfl ?_
            refine lst_bin rfl rfl rfl (run_neq_bool Tryd.underlying4 _ _ _ _) ?_
            refine lst_pick_true rfl rfl rfl ?_
            refine lst_nil ?_
            exact ex_cut (.cons (by simp_all [look]) (by repeat (first | exact Sub.nil _ | refine Sub.cons rfl ?_))) (by repeat (first | exact List.Sublist.refl _ | exact List.nil_sublist _ | refine List.Sublist.cons_cons _ ?_ | refine List.Sublist.cons _ ?_))
          · skip
            refine lst_off rfl rfl rfl ?_
            refine lst_off rfl rfl rfl ?_
            refine lst_off rfl rfl rfl ?_
            refine lst_off rfl rfl rfl ?_
            refine lst_off rfl rfl rfl ?_
            refine lst_pick_false rfl rfl rfl ?_
            refine lst_nil ?_
            exact ex_cut (.cons (by simp_all [look]) (by repeat (first | exact Sub.nil _ | refine Sub.cons rfl ?_))) (by repeat (first | exact List.Sublist.refl _ | exact List.nil_sublist _ | refine List.Sublist.cons_cons _ ?_ | refine List.Sublist.cons _ ?_))
        · skip
          refine lst_off rfl rfl rfl ?_
          refine lst_off rfl rfl rfl ?_
          refine lst_pick_false rfl rfl rfl ?_
          refine lst_move rfl rfl ?_
          refine lst_split_bool (t := 93) rfl (fun hg93 => ?_) (fun hg93 => ?_)
          · skip
            refine lst_on rfl rfl ?_
            refine lst_move rfl rfl ?_
            refine lst_on rfl rfl ?_
            refine lst_int rfl rfl rfl bin_eql ?_
            refine lst_on rfl rfl ?_
            refine lst_move rfl rfl ?_
            refine lst_on rfl rfl ?_
            refine lst_int rfl rfl rfl bin_eql ?_
            refine lst_on rfl rfl ?_
            refine lst_bin rfl rfl rfl (run_neq_bool Tryd.underlying4 _ _ _ _) ?_
            refine lst_pick_true rfl rfl rfl ?_
            refine lst_nil ?_
            exact ex_cut (.cons (by simp_all [look]) (by repeat (first | exact Sub.nil _ | refine Sub.cons rfl ?_))) (by repeat (first | exact List.Sublist.refl _ | exact List.nil_sublist _ | refine List.Sublist.cons_cons _ ?_ | refine List.Sublist.cons _ ?_))
          · skip
            refine lst_off rfl rfl rfl ?_
            refine lst_off rfl rfl rfl ?_
            refine lst_off rfl rfl rfl ?_
            refine lst_off rfl rfl rfl ?_
            refine lst_off rfl rfl rfl ?_
            refine lst_pick_false rfl rfl rfl ?_
            refine lst_nil ?_
            exact ex_cut (.cons (by simp_all [look]) (by repeat (first | exact Sub.nil _ | refine Sub.cons rfl ?_))) (by repeat (first | exact List.Sublist.refl _ | exact List.nil_sublist _ | refine List.Sublist.cons_cons _ ?_ | refine List.Sublist.cons _ ?_))
      refine lst_nil ?_
      refine ex_then ?_
      refine cod_cond_bool rfl (fun hc3 => ?_) (fun hc3 => ?_)
      · skip
        have hT := (tells_test hsl hsw hk.1 hk5 hP1 hP2 hP3 hP4).1 hc3
        refine cod_seq ?_
        refine cod_region ?_
        refine lst_move rfl rfl ?_
        refine lst_move rfl rfl ?_
        refine lst_index (j := i) rfl rfl rfl Tryd.underlying49 F.ti25 rfl hil ?_
        refine lst_load_at (v := .slice s.A s.l.length s.c) rfl rfl F.one25 (fun a w ha => row_cell ha (InR.mem (A := (some ⟨gL, 0, none⟩))) rfl (by rw [Nat.zero_add]; exact vals_get hs)) ?_
        refine lst_assign rfl rfl ?_
        refine lst_assign rfl rfl ?_
        refine lst_nil ?_
        refine ex_then ?_
        refine cod_ret ?_
        refine ex_block_ret ?_
        refine ex_then_ret ?_
        refine ex_then_ret ?_
        refine ex_block_ret ?_
        refine ex_block_ret ?_
        refine ex_then_ret ?_
        refine ex_then_ret ?_
        refine ex_block_ret ?_
        refine ex_then_ret ?_
        have hfs := fsA_is (hi.2.found hk5 hsx hT)
        rw [hfs]
        exact ex_ret rfl (fun a w ha => res_two rfl rfl rfl ha) (fun a w ha => ⟨s.A, s.c, rfl, (ha.grown (List.singleton_sublist.2 (by have hm : s.res ∈ Ls.map Sl.res := List.mem_map.2 ⟨s, hsm, rfl⟩; simp [hm, ← show s.res = Res.row 3 1 s.A s.l.length s.c (ints s.l) from rfl])))⟩)
      · skip
        have hT : ¬ tellsP ags f g s.l := fun h => by
          have h' := (tells_test hsl hsw hk.1 hk5 hP1 hP2 hP3 hP4).2 h
          rw [h'] at hc3
          cases hc3
        refine cod_skip ?_
        refine ex_block_normal ?_
        refine ex_then ?_
        refine cod_region ?_
        refine lst_move rfl rfl ?_
        refine lst_int rfl rfl rfl (fun w => bin_add w (wrap_i64' _ (by omega) (by omega))) ?_
        refine lst_assign rfl rfl ?_
        refine lst_nil ?_
        refine ex_round' (i + 1) ⟨by omega, hi.2.next hsx hT⟩ (by (try dsimp only); omega) (by repeat (first | exact Sub.nil _ | refine Sub.cons rfl ?_)) (by repeat (first | exact Pck.nil _ | exact Pck.refl _ | (apply Pck.cons; focus ((repeat (first | exact Rem.here _ | apply Rem.there)); done)) | refine Pck.skip _ ?_))
    · skip
      have hseen := hi.2.round (by omega)
      refine cod_exit ?_
      refine ex_then_exit ?_
      refine ex_then_exit ?_
      refine ex_block_exit ?_
      refine ex_block_normal ?_
      refine ex_then ?_
      refine cod_region ?_
      refine lst_move rfl rfl ?_
      refine lst_int rfl rfl rfl (fun w => bin_add w (wrap_i64' _ (by omega) (by omega))) ?_
      refine lst_assign rfl rfl ?_
      refine lst_nil ?_
      refine ex_round (k + 1) ⟨by omega, by omega, hseen⟩ (by (try dsimp only); omega) (by repeat (first | exact Sub.nil _ | refine Sub.cons rfl ?_)) (by repeat (first | exact List.Sublist.refl _ | exact List.nil_sublist _ | refine List.Sublist.cons_cons _ ?_ | refine List.Sublist.cons _ ?_))
  · skip
    obtain rfl : k = 6 := by omega
    have hfs := fsA_is (hk.2.2.none_)
    refine cod_exit ?_
    refine ex_then_exit ?_
    refine ex_then_exit ?_
    refine ex_block_exit ?_
    refine ex_then ?_
    refine cod_seq ?_
    refine cod_region ?_
    refine lst_assign rfl rfl ?_
    refine lst_assign rfl rfl ?_
    refine lst_nil ?_
    refine ex_then ?_
    refine cod_ret ?_
    rw [hfs]
    exact ex_ret rfl (fun a w ha => res_two rfl rfl rfl ha) (fun a w ha => Says.nil ⟨rfl, ha.grown (List.nil_sublist _)⟩)

end Go.Proofs.YtofkhehcnfiopaaDoor.N
namespace Go.Proofs.YtofkhehcnfiopaaDoor.N
open Go Go.RowKit Go.Proofs
/-! Several melts at once, and two told apart: whatever agents and numbers. -/
noncomputable def tellA (ags : List Ag) (g f : Nat) : List Nat × Nat := fsA ags.length (tellsP ags f g) 5
theorem tellA_le (ags : List Ag) (g f : Nat) : (tellA ags g f).1.length ≤ 5 := fsA_le _ _ _
theorem twoR_le5 {R : List Ag → Nat → Nat → List Nat × Nat} {N : Nat} (hR : ∀ ags p f, (R ags p f).1.length ≤ N) (l : List RA) (m p : Int) : (twoR R l m p).1.length ≤ N := by
  unfold twoR
  split
  · exact hR _ _ _
  · exact Nat.zero_le _
theorem Tells_all (A : Option Addr) (c : Nat) (l : List RA) (m p : Int) (w : World) (hA : RdL RA.cells 5 w A l) : Calls Tryd.prog 30 #[.slice A l.length c, .int .i64 m, .int .i64 p] w (Says w (twoR tellA l m p).1 (twoR tellA l m p).2) :=
  prog_two tellA (fun ags hok f p hf hp w hA => (Tells_ok A c ags hok f p hf hp w hA).mono fun e w' h => by
    obtain ⟨o, A', c', h1, h2, h3⟩ := h
    have e1 := fsA_is (tells_fs h1)
    unfold tellA
    rw [e1]
    cases o with
    | none => exact ⟨A', c', h2, h3⟩
    | some k => exact ⟨A', c', h2, h3⟩) (fun l hn n0 n1 w hA => Tells_bad A c l hn n0 n1 w hA) (fun ags hok n0 h0 n1 w hA => Tells_bad0 A c ags hok n0 h0 n1 w hA) (fun ags hok n0 h0 n1 h1 w hA => Tells_bad1 A c ags hok n0 h0 n1 h1 w hA) l m p w hA
theorem rTells_all (A : Option Addr) (c : Nat) (l : List RA) (m p : Int) (w : World) (hA : RdL RA.cells 5 w A l) : Calls Tryd.prog 31 #[.slice A l.length c, .int .i64 m, .int .i64 p] w (Says w (twoR tellA l m p).1 (twoR tellA l m p).2) :=
  ref_two tellA (fun ags hok f p hf hp w hA => rTells_ok A c ags hok f p hf hp w hA) (fun l m p hn w hA => rTells_bad A c l m p hn w hA) l m p w hA
open Classical in
noncomputable def bothR (l : List RA) (ms : List Int) (p : Int) : List Nat × Nat :=
  if checkR l ≠ 0 then ([], checkR l) else if ms.length = 0 then ([], 7) else if 3 < ms.length then ([], 6) else if (∀ m ∈ ms, inB m 0 63 = true) ∧ inB p 0 63 = true then fsA (agsOf l).length (clearsM (agsOf l) (ms.map Int.toNat) p.toNat) 5 else ([], 1)
theorem bothR_le (l : List RA) (ms : List Int) (p : Int) : (bothR l ms p).1.length ≤ 5 := by
  unfold bothR
  split
  · exact Nat.zero_le _
  split
  · exact Nat.zero_le _
  split
  · exact Nat.zero_le _
  split
  · exact fsA_le _ _ _
  · exact Nat.zero_le _
theorem castL_toNat {ms : List Int} (h : ∀ m ∈ ms, inB m 0 63 = true) : castL (ms.map Int.toNat) = ms := by
  unfold castL
  rw [List.map_map]
  conv => rhs; rw [← List.map_id ms]
  refine List.map_congr_left fun m hm => ?_
  have := inB_true.1 (h m hm)
  show ((m.toNat : Nat) : Int) = m
  omega
theorem RdL.uncast {w : World} {A : Option Addr} {l : List Nat} (h : RdL icell 1 w A (castL l)) : RdL ncell 1 w A l := fun hl => by
  obtain ⟨b, o, h1, h2, h3⟩ := h (by rw [castL_len]; exact hl)
  exact ⟨b, o, h1, h2, fun k x hk j u hu => h3 k _ (castL_get hk) j u hu⟩
/-- What both are asked of whatever agents and melts. -/
theorem both_any {f : FuncId} {A mA : Option Addr} {c mc : Nat}
    (hok : ∀ ags, Oks ags → ∀ (ms : List Nat) (p : Nat), 1 ≤ ms.length → ms.length ≤ 3 → (∀ m ∈ ms, m < 64) → p < 64 → ∀ w, RdL Ag.cells 5 w A ags → RdL ncell 1 w mA ms → Calls Tryd.prog f #[.slice A ags.length c, .slice mA ms.length mc, .int .i64 (p : Int)] w (Says w (fsA ags.length (clearsM ags ms p) 5).1 (fsA ags.length (clearsM ags ms p) 5).2))
    (hbad : ∀ l, checkR l ≠ 0 → ∀ (ml : Nat) (p : Int) w, RdL RA.cells 5 w A l → Calls Tryd.prog f #[.slice A l.length c, .slice mA ml mc, .int .i64 p] w fun e w' => e = .returned (.tuple #[.slice none 0 0, .int .i64 ((checkR l : Nat) : Int)]) ∧ Grew w w' [])
    (he7 : ∀ ags, Oks ags → ∀ (ms : List Int) (p : Int), ms.length = 0 → ∀ w, RdL Ag.cells 5 w A ags → Calls Tryd.prog f #[.slice A ags.length c, .slice mA ms.length mc, .int .i64 p] w fun e w' => e = .returned (.tuple #[.slice none 0 0, .int .i64 7]) ∧ Grew w w' [])
    (he6 : ∀ ags, Oks ags → ∀ (ms : List Int) (p : Int), 3 < ms.length → ∀ w, RdL Ag.cells 5 w A ags → Calls Tryd.prog f #[.slice A ags.length c, .slice mA ms.length mc, .int .i64 p] w fun e w' => e = .returned (.tuple #[.slice none 0 0, .int .i64 6]) ∧ Grew w w' [])
    (hm1 : ∀ ags, Oks ags → ∀ (ms : List Int) (p : Int), 1 ≤ ms.length → ms.length ≤ 3 → (∃ m ∈ ms, inB m 0 63 = false) → ∀ w, RdL Ag.cells 5 w A ags → RdL icell 1 w mA ms → Calls Tryd.prog f #[.slice A ags.length c, .slice mA ms.length mc, .int .i64 p] w fun e w' => e = .returned (.tuple #[.slice none 0 0, .int .i64 1]) ∧ Grew w w' [])
    (hp1 : ∀ ags, Oks ags → ∀ (ms : List Nat) (p : Int), 1 ≤ ms.length → ms.length ≤ 3 → (∀ m ∈ ms, m < 64) → inB p 0 63 = false → ∀ w, RdL Ag.cells 5 w A ags → RdL ncell 1 w mA ms → Calls Tryd.prog f #[.slice A ags.length c, .slice mA ms.length mc, .int .i64 p] w fun e w' => e = .returned (.tuple #[.slice none 0 0, .int .i64 1]) ∧ Grew w w' [])
    (l : List RA) (ms : List Int) (p : Int) (w : World) (hA : RdL RA.cells 5 w A l) (hM : RdL icell 1 w mA ms) : Calls Tryd.prog f #[.slice A l.length c, .slice mA ms.length mc, .int .i64 p] w (Says w (bothR l ms p).1 (bothR l ms p).2) := by
  unfold bothR
  by_cases hc : checkR l ≠ 0
  · rw [if_pos hc]
    exact (hbad l hc ms.length p w hA).mono fun e w' h => Says.nil h
  · rw [if_neg hc]
    have hc : checkR l = 0 := Classical.not_not.1 hc
    have hag := hA.ag hc
    have ho := checkR_oks hc
    by_cases h7 : ms.length = 0
    · rw [if_pos h7]
      have h := he7 (agsOf l) ho ms p h7 w hag
      rw [agsOf_len] at h
      exact h.mono fun e w' h => Says.nil h
    · rw [if_neg h7]
      by_cases h6 : 3 < ms.length
      · rw [if_pos h6]
        have h := he6 (agsOf l) ho ms p h6 w hag
        rw [agsOf_len] at h
        exact h.mono fun e w' h => Says.nil h
      · rw [if_neg h6]
        by_cases hm : ∀ m ∈ ms, inB m 0 63 = true
        · have hcast := castL_toNat hm
          have hM' : RdL ncell 1 w mA (ms.map Int.toNat) := RdL.uncast (by rw [hcast]; exact hM)
          have hms : ∀ m ∈ ms.map Int.toNat, m < 64 := fun m hmm => by
            obtain ⟨x, hx, rfl⟩ := List.mem_map.1 hmm
            have := inB_true.1 (hm x hx)
            omega
          cases hq : inB p 0 63 with
          | true =>
            obtain ⟨q, rfl, hq'⟩ := nat_of_inB hq
            rw [if_pos ⟨hm, rfl⟩, Int.toNat_natCast]
            have h := hok (agsOf l) ho (ms.map Int.toNat) q (by rw [List.length_map]; omega) (by rw [List.length_map]; omega) hms hq' w hag hM'
            rw [List.length_map, agsOf_len] at h
            rw [agsOf_len]
            exact h
          | false =>
            rw [if_neg (fun h => by cases h.2)]
            have h := hp1 (agsOf l) ho (ms.map Int.toNat) p (by rw [List.length_map]; omega) (by rw [List.length_map]; omega) hms hq w hag hM'
            rw [List.length_map, agsOf_len] at h
            exact h.mono fun e w' h => Says.nil h
        · rw [if_neg (fun h => hm h.1)]
          have hbm : ∃ m ∈ ms, inB m 0 63 = false := by
            refine Classical.byContradiction fun h => hm fun m hmm => ?_
            cases h0 : inB m 0 63 with
            | true => rfl
            | false => exact absurd ⟨m, hmm, h0⟩ h
          have h := hm1 (agsOf l) ho ms p (by omega) (by omega) hbm w hag hM
          rw [agsOf_len] at h
          exact h.mono fun e w' h => Says.nil h
theorem Both_all (A mA : Option Addr) (c mc : Nat) (l : List RA) (ms : List Int) (p : Int) (w : World) (hA : RdL RA.cells 5 w A l) (hM : RdL icell 1 w mA ms) : Calls Tryd.prog 28 #[.slice A l.length c, .slice mA ms.length mc, .int .i64 p] w (Says w (bothR l ms p).1 (bothR l ms p).2) :=
  both_any (fun ags hok ms p h1 h3 hms hp w hA hM => (Both_ok A c ags hok mA mc ms p h1 h3 hms hp w hA hM).mono fun e w' h => by
    obtain ⟨o, h4, h5, h6⟩ := h
    rw [fsA_is (both_fs h1 h3 h4)]
    cases o with
    | none => exact ⟨_, _, h5, h6⟩
    | some k => exact ⟨_, _, h5, h6⟩)
    (fun l hn ml p w hA => Both_bad A c l hn mA ml mc p w hA) (fun ags hok ms p h w hA => Both_e7 A c ags hok mA mc ms p h w hA) (fun ags hok ms p h w hA => Both_e6 A c ags hok mA mc ms p h w hA)
    (fun ags hok ms p h1 h3 hb w hA hM => Both_m1 A c ags hok mA mc ms p h1 h3 hb w hA hM) (fun ags hok ms p h1 h3 hms hp w hA hM => Both_p1 A c ags hok mA mc ms p h1 h3 hms hp w hA hM) l ms p w hA hM
theorem rBoth_all (A mA : Option Addr) (c mc : Nat) (l : List RA) (ms : List Int) (p : Int) (w : World) (hA : RdL RA.cells 5 w A l) (hM : RdL icell 1 w mA ms) : Calls Tryd.prog 29 #[.slice A l.length c, .slice mA ms.length mc, .int .i64 p] w (Says w (bothR l ms p).1 (bothR l ms p).2) :=
  both_any (fun ags hok ms p h1 h3 hms hp w hA hM => rBoth_ok A c ags hok mA mc ms p h1 h3 hms hp w hA hM)
    (fun l hn ml p w hA => rBoth_bad A c l hn mA ml mc p w hA) (fun ags hok ms p h w hA => rBoth_e7 A c ags hok mA mc ms p h w hA) (fun ags hok ms p h w hA => rBoth_e6 A c ags hok mA mc ms p h w hA)
    (fun ags hok ms p h1 h3 hb w hA hM => rBoth_m1 A c ags hok mA mc ms p h1 h3 hb w hA hM) (fun ags hok ms p h1 h3 hms hp w hA hM => rBoth_p1 A c ags hok mA mc ms p h1 h3 hms hp w hA hM) l ms p w hA hM
end Go.Proofs.YtofkhehcnfiopaaDoor.N
