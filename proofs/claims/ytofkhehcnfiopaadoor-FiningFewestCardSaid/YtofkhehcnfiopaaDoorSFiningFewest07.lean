/- Parts of the walks of the laws on fining, those that FiningFewest needs: F51, Sx17, F52, F53, FewR, F54, All5, F55, ChqP, F56, F57. -/
import Derived.Test.YtofkhehcnfiopaaDoorSFiningFewest06
import Derived.Test.YtofkhehcnfiopaaDoorProg
import Derived.Test.YtofkhehcnfiopaaDoorSFiningFewest05
namespace Go.Proofs.YtofkhehcnfiopaaDoor.N
open Go Go.RowKit Go.Proofs
theorem rd_now {C : Ctx} {fr : List (Nat × Value)} {hp : List Res} {a : Act} {w : World} (ha : At C fr hp a w) {α : Type} {cells : α → List Value} {size : Nat} {A : Option Addr} {l : List α} (hB : C.w0.heap.size = C.B) (h : RdL cells size C.w0 A l) : RdL cells size w A l :=
  h.later (by rw [hB]; exact ha.below)
theorem rd_at {C : Ctx} {fr : List (Nat × Value)} {hp : List Res} {a : Act} {w : World} (ha : At C fr hp a w) {α : Type} {cells : α → List Value} {size g k j : Nat} {l : List α} {x : α} {u : Value} (hB : C.w0.heap.size = C.B) (h : RdL cells size C.w0 (some ⟨g, 0, none⟩) l) (hk : l[k]? = some x) (hu : (cells x)[j]? = some u) :
    w.cell? ⟨g, 0 + k * size + j, none⟩ = some u := by
  obtain ⟨b, o, h1, h2, h3⟩ := rd_now ha hB h (by have := (List.getElem?_eq_some_iff.1 hk).1; omega)
  cases h1
  exact h3 k x hk j u hu
theorem prices2_c {C : Ctx} {fr : List (Nat × Value)} {T : List Res} {a : Act} {w : World} (hC : C.P = Tryd.prog) {ags : List Ag} {used p cg N : Nat} {aA : Option Addr} (hok : Oks ags) (hu : used < 256) (hp : p < 64) (hN64 : N ≤ 1000) (hN : (roundP ags used (iterP ags used p N) 64).2 = false) (hB : C.w0.heap.size = C.B) (hRd : RdL Ag.cells 5 C.w0 aA ags) (hA0 : 0 < ags.length → ∃ g, aA = some ⟨g, 0, none⟩) (ha : At C fr (T) a w) : Calls C.P 88 #[.agg [.slice aA ags.length cg, .int .u8 (used : Int)].toArray, .int .u8 (p : Int)] w fun e w' => ∃ j b, j ≤ N ∧ (roundP ags used (iterP ags used p j) 64).2 = false ∧ e = .returned (.pointer (some ⟨b, 0, none⟩)) ∧ At C fr (.blk b (.cells (mcells (.func (.func 116) #[] #[]) (iterP ags used p (j + 1))).toArray 99 (0, 0)) :: T) a w' := by
  obtain ⟨P, B, w0, N0, ds⟩ := C
  obtain rfl : P = Tryd.prog := hC
  refine enter_in (N := 71) [(0, .agg [.slice aA ags.length cg, .int .u8 (used : Int)].toArray), (1, .int .u8 (p : Int))] ha Tryd.func88 rfl Tryd.ntmps88 rfl rfl ?_
  refine cod_seq ?_
  refine cod_region ?_
  refine lst_box rfl rfl ?_
  intro b2
  refine lst_assign rfl rfl ?_
  refine lst_nil ?_
  refine ex_then ?_
  refine cod_scope_jumps 0 (G := Nat × Nat) (fun g => g.1 ≤ N) (fun g => N - g.1) (fun g => [(1, .int .u8 (p : Int)), (2, .pointer (some ⟨b2, 0, none⟩)), (5, .pointer (some ⟨g.2, 0, none⟩))]) (fun g => .blk g.2 (.cells (mcells (.func (.func 116) #[] #[]) (iterP ags used p g.1)).toArray 99 (0, 0)) :: .blk b2 (.cells [.slice aA ags.length cg, .int .u8 (used : Int)].toArray 75 (0, 0)) :: T) rfl ?_ ?_
  · skip
    refine cod_seq ?_
    refine cod_region ?_
    refine lst_build (vs := [(0, _)]) (l := mcells (.func (.func 116) #[] #[]) (initP p 0)) rfl rfl (fun w => Go.run_build w 99 _ _ (by kernel_rfl)) ?_
    refine lst_box (l := mcells (.func (.func 116) #[] #[]) (initP p 0)) (hl := mcells_box _ rfl _) rfl rfl ?_
    intro b13
    refine lst_assign rfl rfl ?_
    refine lst_nil ?_
    refine ex_then ?_
    refine cod_seq ?_
    refine cod_seq ?_
    refine cod_region ?_
    refine lst_move rfl rfl ?_
    refine lst_nil ?_
    refine ex_then ?_
    refine cod_block ?_
    refine cod_loop (G := Nat) (fun k => k ≤ 64) (fun k => 64 - k) (fun k => [(1, .int .u8 (p : Int)), (2, .pointer (some ⟨b2, 0, none⟩)), (5, .pointer (some ⟨b13, 0, none⟩)), (14, .int .i64 (k : Int))]) (fun k => .blk b13 (.cells (mcells (.func (.func 116) #[] #[]) (initP p k)).toArray 99 (0, 0)) :: .blk b2 (.cells [.slice aA ags.length cg, .int .u8 (used : Int)].toArray 75 (0, 0)) :: T) 0 (Nat.zero_le _) (by repeat (first | exact Sub.nil _ | refine Sub.cons rfl ?_)) (by repeat (first | exact List.Sublist.refl _ | exact List.nil_sublist _ | refine List.Sublist.cons_cons _ ?_ | refine List.Sublist.cons _ ?_)) ?_
    intro k hk
    (try dsimp only at hk ⊢)
    refine cod_seq ?_
    refine cod_region ?_
    refine lst_int rfl rfl rfl bin_lss ?_
    refine lst_nil ?_
    refine ex_then ?_
    refine cod_seq ?_
    refine cod_cond_dec rfl (fun hc0 => ?_) (fun hc0 => ?_)
    · skip
      have hk64 : k < 64 := by omega
      refine cod_skip ?_
      refine ex_then ?_
      refine cod_seq ?_
      refine cod_block ?_
      refine cod_seq ?_
      refine cod_region ?_
      refine lst_move rfl rfl ?_
      refine lst_assign rfl rfl ?_
      refine lst_nil ?_
      refine ex_then ?_
      refine any_begin [.b b13] F.follows 11 rfl [false, false, false, false, false, false, false, false, false, false, false] rfl ?_
      refine any_take (listed' := [true, false, false, false, false, false, false, false, false, false, false].toArray) 0 rfl rfl rfl (by kernel_rfl) (by kernel_rfl) (by kernel_rfl) (by repeat (first | exact List.Sublist.refl _ | exact List.nil_sublist _ | refine List.Sublist.cons_cons _ ?_ | refine List.Sublist.cons _ ?_)) (yld_move rfl) rfl ?_
      refine any_take (listed' := [true, true, false, false, false, false, false, false, false, false, false].toArray) 1 rfl rfl rfl (by kernel_rfl) (by kernel_rfl) (by kernel_rfl) (by repeat (first | exact List.Sublist.refl _ | exact List.nil_sublist _ | refine List.Sublist.cons_cons _ ?_ | refine List.Sublist.cons _ ?_)) (yld_move rfl) rfl ?_
      refine any_take (listed' := [true, true, true, false, false, false, false, false, false, false, false].toArray) 2 rfl rfl rfl (by kernel_rfl) (by kernel_rfl) (by kernel_rfl) (by repeat (first | exact List.Sublist.refl _ | exact List.nil_sublist _ | refine List.Sublist.cons_cons _ ?_ | refine List.Sublist.cons _ ?_)) (yld_move rfl) rfl ?_
      refine any_take (listed' := [true, true, true, true, false, false, false, false, false, false, false].toArray) 3 rfl rfl rfl (by kernel_rfl) (by kernel_rfl) (by kernel_rfl) (by repeat (first | exact List.Sublist.refl _ | exact List.nil_sublist _ | refine List.Sublist.cons_cons _ ?_ | refine List.Sublist.cons _ ?_)) (yld_convert rfl Tryd.underlying3 Tryd.underlying77 (wrap_u8 _ (by omega))) rfl ?_
      refine any_take (listed' := [true, true, true, true, true, false, false, false, false, false, false].toArray) 4 rfl rfl rfl (by kernel_rfl) (by kernel_rfl) (by kernel_rfl) (by repeat (first | exact List.Sublist.refl _ | exact List.nil_sublist _ | refine List.Sublist.cons_cons _ ?_ | refine List.Sublist.cons _ ?_)) (yld_move rfl) rfl ?_
      refine any_take (listed' := [true, true, true, true, true, false, true, false, false, false, false].toArray) 6 rfl rfl rfl (by kernel_rfl) (by kernel_rfl) (by kernel_rfl) (by repeat (first | exact List.Sublist.refl _ | exact List.nil_sublist _ | refine List.Sublist.cons_cons _ ?_ | refine List.Sublist.cons _ ?_)) (yld_nilCheck rfl) rfl ?_
      refine any_take (listed' := [true, true, true, true, true, false, true, true, false, false, false].toArray) 7 rfl rfl rfl (by kernel_rfl) (by kernel_rfl) (by kernel_rfl) (by repeat (first | exact List.Sublist.refl _ | exact List.nil_sublist _ | refine List.Sublist.cons_cons _ ?_ | refine List.Sublist.cons _ ?_)) (yld_field_z rfl F.fi99_1 F.ti97) rfl ?_
      refine any_one (listed' := [true, true, true, true, true, true, true, true, false, false, false].toArray) 5 (by kernel_rfl) rfl rfl ?_
      refine lst_fn0 (vs := [_, _]) rfl rfl F.ent81 (fun a w ha => clear_c k p (by omega) (by omega) w) ?_
      refine lst_nil ?_
      refine any_next (by repeat (first | exact List.Sublist.refl _ | exact List.nil_sublist _ | refine List.Sublist.cons_cons _ ?_ | refine List.Sublist.cons _ ?_)) ?_
      refine any_take (listed' := [true, true, true, true, true, true, true, true, true, false, false].toArray) 8 rfl rfl rfl (by kernel_rfl) (by kernel_rfl) (by kernel_rfl) (by repeat (first | exact List.Sublist.refl _ | exact List.nil_sublist _ | refine List.Sublist.cons_cons _ ?_ | refine List.Sublist.cons _ ?_)) (yld_index_arr (j := _) rfl rfl Tryd.underlying97 F.ti95 rfl (by omega)) rfl ?_
      refine any_take (listed' := [true, true, true, true, true, true, true, true, true, true, false].toArray) 9 rfl rfl rfl (by kernel_rfl) (by kernel_rfl) (by kernel_rfl) (by repeat (first | exact List.Sublist.refl _ | exact List.nil_sublist _ | refine List.Sublist.cons_cons _ ?_ | refine List.Sublist.cons _ ?_)) (yld_field rfl F.fi95_2 F.ti4) rfl ?_
      refine any_one (listed' := [true, true, true, true, true, true, true, true, true, true, true].toArray) 10 (by kernel_rfl) rfl rfl ?_
      refine lst_store_any rfl rfl F.ti4 (by rw [mcells_len, (Bd.init p k).1]; omega) (show mcells (.func (.func 116) #[] #[]) (initP p (k + 1)) = _ from by rw [← initP_set p hk64]; exact mcells_known (.func (.func 116) #[] #[]) (initP p k) (initP_get p hk64) _) UpB.upd ?_
      refine lst_nil ?_
      refine any_next (by repeat (first | exact List.Sublist.refl _ | exact List.nil_sublist _ | refine List.Sublist.cons_cons _ ?_ | refine List.Sublist.cons _ ?_)) ?_
      refine any_done rfl (by kernel_rfl) ?_
      refine ex_block_normal ?_
      refine ex_then ?_
      refine cod_region ?_
      refine lst_int rfl rfl rfl (fun w => bin_add w (wrap_i64' _ (by omega) (by omega))) ?_
      refine lst_move rfl rfl ?_
      refine lst_nil ?_
      refine ex_round (k + 1) (by omega) (by (try dsimp only); omega) (by repeat (first | exact Sub.nil _ | refine Sub.cons rfl ?_)) (by repeat (first | exact List.Sublist.refl _ | exact List.nil_sublist _ | refine List.Sublist.cons_cons _ ?_ | refine List.Sublist.cons _ ?_))
    · skip
      refine cod_exit ?_
      refine ex_then_exit ?_
      refine ex_then_exit ?_
      refine ex_block_exit ?_
      refine ex_then ?_
      refine cod_seq ?_
      refine cod_label ?_
      refine ex_then ?_
      refine cod_seq ?_
      refine cod_region ?_
      obtain rfl : k = 64 := by omega
      obtain ⟨j, hj⟩ : ∃ j, j = 0 := ⟨0, rfl⟩
      have hjN : j ≤ N := by omega
      rw [show initP p 64 = iterP ags used p j from by rw [hj]; rfl]
      refine lst_assign rfl rfl ?_
      refine lst_nil ?_
      refine ex_then ?_
      refine cod_seq ?_
      refine cod_seq ?_
      refine cod_region ?_
      refine lst_move rfl rfl ?_
      refine lst_nil ?_
      refine ex_then ?_
      refine cod_block ?_
      refine cod_loop (G := Nat) (fun k => k ≤ 64) (fun k => 64 - k) (fun k => [(1, .int .u8 (p : Int)), (2, .pointer (some ⟨b2, 0, none⟩)), (5, .pointer (some ⟨b13, 0, none⟩)), (7, .bool (roundP ags used (iterP ags used p j) k).2), (28, .int .i64 (k : Int))]) (fun k => .blk b13 (.cells (mcells (.func (.func 116) #[] #[]) (roundP ags used (iterP ags used p j) k).1).toArray 99 (0, 0)) :: .blk b2 (.cells [.slice aA ags.length cg, .int .u8 (used : Int)].toArray 75 (0, 0)) :: T) 0 (Nat.zero_le _) (by repeat (first | exact Sub.nil _ | refine Sub.cons rfl ?_)) (by repeat (first | exact List.Sublist.refl _ | exact List.nil_sublist _ | refine List.Sublist.cons_cons _ ?_ | refine List.Sublist.cons _ ?_)) ?_
      intro k hk
      (try dsimp only at hk ⊢)
      refine cod_seq ?_
      refine cod_region ?_
      refine lst_int rfl rfl rfl bin_lss ?_
      refine lst_nil ?_
      refine ex_then ?_
      refine cod_seq ?_
      refine cod_cond_dec rfl (fun hc1 => ?_) (fun hc1 => ?_)
      · skip
        have hk64 : k < 64 := by omega
        refine cod_skip ?_
        refine ex_then ?_
        refine cod_seq ?_
        refine cod_block ?_
        refine cod_seq ?_
        refine cod_region ?_
        refine lst_move rfl rfl ?_
        refine lst_assign rfl rfl ?_
        refine lst_nil ?_
        refine ex_then ?_
        refine cod_seq ?_
        refine cod_region ?_
        refine lst_loadN rfl rfl F.agg75 F.ti75 ?_
        refine lst_move rfl rfl ?_
        refine lst_convert rfl rfl Tryd.underlying3 Tryd.underlying77 (wrap_u8 _ (by omega)) ?_
        refine lst_fn (X := Option Addr × Nat) (vs := [_, _]) (p := fun _ => True) (val := fun x => .slice x.1 (canTo ags used k ags.length).length x.2) (rs := fun x => [.row 3 1 x.1 (canTo ags used k ags.length).length x.2 (ints (canTo ags used k ags.length))]) rfl rfl F.ent89 (fun a w ha => (can_c aA cg ags used k hok hu (by omega) w (rd_now ha hB hRd)).mono (fun e w' h => by obtain ⟨A', c', h1, h2⟩ := h; exact ⟨(A', c'), trivial, h1, h2⟩)) ?_
        rintro ⟨cA, cc⟩ -
        dsimp only [List.cons_append, List.nil_append]
        refine lst_len rfl rfl Tryd.underlying25 ?_
        refine lst_move rfl rfl ?_
        refine lst_nil ?_
        refine ex_then ?_
        refine cod_block ?_
        refine cod_loop (G := Nat) (fun t => t ≤ (canTo ags used k ags.length).length) (fun t => (canTo ags used k ags.length).length - t) (fun t => [(1, .int .u8 (p : Int)), (2, .pointer (some ⟨b2, 0, none⟩)), (5, .pointer (some ⟨b13, 0, none⟩)), (7, .bool (relaxF ags k (roundP ags used (iterP ags used p j) k) ((canTo ags used k ags.length).take t)).2), (28, .int .i64 (k : Int)), (8, .int .i64 (k : Int)), (34, .slice cA (canTo ags used k ags.length).length cc), (35, .int .i64 ((canTo ags used k ags.length).length : Int)), (36, .int .i64 (t : Int))]) (fun t => .row 3 1 cA (canTo ags used k ags.length).length cc (ints (canTo ags used k ags.length)) :: .blk b13 (.cells (mcells (.func (.func 116) #[] #[]) (relaxF ags k (roundP ags used (iterP ags used p j) k) ((canTo ags used k ags.length).take t)).1).toArray 99 (0, 0)) :: .blk b2 (.cells [.slice aA ags.length cg, .int .u8 (used : Int)].toArray 75 (0, 0)) :: T) 0 (Nat.zero_le _) (by repeat (first | exact Sub.nil _ | refine Sub.cons rfl ?_)) (by repeat (first | exact List.Sublist.refl _ | exact List.nil_sublist _ | refine List.Sublist.cons_cons _ ?_ | refine List.Sublist.cons _ ?_)) ?_
        intro t ht
        (try dsimp only at hk ⊢)
        refine cod_seq ?_
        refine cod_region ?_
        refine lst_int rfl rfl rfl bin_lss ?_
        refine lst_nil ?_
        refine ex_then ?_
        refine cod_seq ?_
        refine cod_cond_dec rfl (fun hc2 => ?_) (fun hc2 => ?_)
        · skip
          have ht' : t < (canTo ags used k ags.length).length := by omega
          have hcl := canTo_len ags used k ags.length
          have hol := hok.1
          obtain ⟨i, hci⟩ : ∃ i, (canTo ags used k ags.length)[t]? = some i := ⟨_, List.getElem?_eq_getElem ht'⟩
          obtain ⟨hi', _, _⟩ := canTo_mem (List.mem_of_getElem? hci)
          obtain ⟨gA, hgA⟩ := hA0 (show 0 < ags.length by omega)
          subst hgA
          obtain ⟨x, hx⟩ : ∃ x, ags[i]? = some x := ⟨_, List.getElem?_eq_getElem hi'⟩
          have hxo : x.ok := hok.2 x (List.mem_of_getElem? hx)
          have hxd : ags.getD i default = x := by rw [List.getD_eq_getElem?_getD, hx]; rfl
          have hBd := Bd.at (used := used) (p := p) hok j k t (by omega)
          have hsn := relaxF_snoc (ags := ags) (f := k) (s := (roundP ags used (iterP ags used p j) k)) hci
          obtain ⟨ps, ch, hpc⟩ : ∃ ps ch, (relaxF ags k (roundP ags used (iterP ags used p j) k) ((canTo ags used k ags.length).take t)) = (ps, ch) := ⟨_, _, rfl⟩
          rw [hpc] at hBd hsn ⊢
          have hps : ps[k]? = some (ps.getD k default) := getD_some (by rw [hBd.1]; exact hk64)
          have hkl : k < ps.length := by rw [hBd.1]; exact hk64
          dsimp only
          refine cod_skip ?_
          refine ex_then ?_
          refine cod_seq ?_
          refine cod_block ?_
          refine cod_seq ?_
          refine cod_region ?_
          refine lst_index_row (j := t) rfl rfl rfl Tryd.underlying25 F.ti3 rfl ht' rfl rfl ?_
          intro gC hgC
          refine lst_load_row (v := .int .i64 (i : Int)) rfl rfl F.one3 hgC (ints_get hci) ?_
          refine lst_assign rfl rfl ?_
          refine lst_nil ?_
          refine ex_then ?_
          refine cod_seq ?_
          refine cod_region ?_
          refine lst_move rfl rfl ?_
          refine lst_field_z rfl rfl F.fi75_0 F.ti72 ?_
          refine lst_load rfl rfl F.one72 ?_
          refine lst_move rfl rfl ?_
          refine lst_index (j := i) rfl rfl rfl Tryd.underlying72 F.ti89 rfl hi' ?_
          refine lst_loadN_at (l := [.int .i64 (x.needs : Int), .int .i64 (x.no : Int), .int .i64 (x.takes : Int), .int .i64 (x.leaves : Int), .int .i64 (x.cost : Int)]) rfl rfl F.agg89 F.ti89 rfl (fun a w ha j u hu => rd_at ha hB hRd hx hu) ?_
          refine lst_move rfl rfl ?_
          refine lst_convert rfl rfl Tryd.underlying3 Tryd.underlying77 (wrap_u8 _ (by omega)) ?_
          refine lst_call (X := Unit) (first := []) (cap := []) (vs := [_, _, _]) (p := fun _ => True) (val := fun _ => .agg [.int .i64 ((afterP ps x k).cost : Int), .int .i64 ((afterP ps x k).puts : Int), .bool (afterP ps x k).known].toArray) (rs := fun _ => .blk b13 (.cells (mcells (.func (.func 116) #[] #[]) ps).toArray 99 (0, 0)) :: .row 3 1 cA (canTo ags used k ags.length).length cc (ints (canTo ags used k ags.length)) :: .blk b2 (.cells [.slice (some ⟨gA, 0, none⟩) ags.length cg, .int .u8 (used : Int)].toArray 75 (0, 0)) :: T) rfl rfl rfl F.ent90 (fun a w ha => (after_c (bm := b13) (x := x) (f := k) (T := .row 3 1 cA (canTo ags used k ags.length).length cc (ints (canTo ags used k ags.length)) :: .blk b2 (.cells [.slice (some ⟨gA, 0, none⟩) ags.length cg, .int .u8 (used : Int)].toArray 75 (0, 0)) :: T) rfl hxo hk64 hBd (by omega) (ha.pck (by repeat (first | exact Pck.nil _ | exact Pck.refl _ | (apply Pck.cons; focus ((repeat (first | exact Rem.here _ | apply Rem.there)); done)) | refine Pck.skip _ ?_)))).mono (fun e w' h => ⟨(), trivial, h.1, h.2⟩)) ?_
          rintro ⟨⟩ -
          dsimp only
          refine lst_alloc rfl F.ti95 ?_
          intro b11
          refine lst_store rfl rfl F.ti95 rfl ?_
          refine lst_nil ?_
          refine ex_then ?_
          refine cod_seq ?_
          refine any_begin [] F.follows 12 rfl [false, false, false, false, false, false, false, false, false, false, false, false] rfl ?_
          refine any_take (listed' := [true, false, false, false, false, false, false, false, false, false, false, false].toArray) 0 rfl rfl rfl (by kernel_rfl) (by kernel_rfl) (by kernel_rfl) (by repeat (first | exact List.Sublist.refl _ | exact List.nil_sublist _ | refine List.Sublist.cons_cons _ ?_ | refine List.Sublist.cons _ ?_)) (yld_move rfl) rfl ?_
          refine any_take (listed' := [true, true, false, false, false, false, false, false, false, false, false, false].toArray) 1 rfl rfl rfl (by kernel_rfl) (by kernel_rfl) (by kernel_rfl) (by repeat (first | exact List.Sublist.refl _ | exact List.nil_sublist _ | refine List.Sublist.cons_cons _ ?_ | refine List.Sublist.cons _ ?_)) (yld_nilCheck rfl) rfl ?_
          refine any_take (listed' := [true, true, true, false, false, false, false, false, false, false, false, false].toArray) 2 rfl rfl rfl (by kernel_rfl) (by kernel_rfl) (by kernel_rfl) (by repeat (first | exact List.Sublist.refl _ | exact List.nil_sublist _ | refine List.Sublist.cons_cons _ ?_ | refine List.Sublist.cons _ ?_)) (yld_field_z rfl F.fi99_0 F.ti96) rfl ?_
          refine any_take (listed' := [true, true, true, true, false, false, false, false, false, false, false, false].toArray) 3 rfl rfl rfl (by kernel_rfl) (by kernel_rfl) (by kernel_rfl) (by repeat (first | exact List.Sublist.refl _ | exact List.nil_sublist _ | refine List.Sublist.cons_cons _ ?_ | refine List.Sublist.cons _ ?_)) (yld_load_at rfl F.one96 (fun a w ha => cell_of_blk (ha.mem_blk (InB.mem (b := b13))) rfl)) rfl ?_
          refine any_take (listed' := [true, true, true, true, true, false, false, false, false, false, false, false].toArray) 4 rfl rfl rfl (by kernel_rfl) (by kernel_rfl) (by kernel_rfl) (by repeat (first | exact List.Sublist.refl _ | exact List.nil_sublist _ | refine List.Sublist.cons_cons _ ?_ | refine List.Sublist.cons _ ?_)) (yld_loadN rfl F.agg95 F.ti95) rfl ?_
          refine any_take (listed' := [true, true, true, true, true, true, false, false, false, false, false, false].toArray) 5 rfl rfl rfl (by kernel_rfl) (by kernel_rfl) (by kernel_rfl) (by repeat (first | exact List.Sublist.refl _ | exact List.nil_sublist _ | refine List.Sublist.cons_cons _ ?_ | refine List.Sublist.cons _ ?_)) (yld_move rfl) rfl ?_
          refine any_take (listed' := [true, true, true, true, true, true, true, false, false, false, false, false].toArray) 6 rfl rfl rfl (by kernel_rfl) (by kernel_rfl) (by kernel_rfl) (by repeat (first | exact List.Sublist.refl _ | exact List.nil_sublist _ | refine List.Sublist.cons_cons _ ?_ | refine List.Sublist.cons _ ?_)) (yld_move rfl) rfl ?_
          refine any_take (listed' := [true, true, true, true, true, true, true, true, false, false, false, false].toArray) 7 rfl rfl rfl (by kernel_rfl) (by kernel_rfl) (by kernel_rfl) (by repeat (first | exact List.Sublist.refl _ | exact List.nil_sublist _ | refine List.Sublist.cons_cons _ ?_ | refine List.Sublist.cons _ ?_)) (yld_nilCheck rfl) rfl ?_
          refine any_take (listed' := [true, true, true, true, true, true, true, true, true, false, false, false].toArray) 8 rfl rfl rfl (by kernel_rfl) (by kernel_rfl) (by kernel_rfl) (by repeat (first | exact List.Sublist.refl _ | exact List.nil_sublist _ | refine List.Sublist.cons_cons _ ?_ | refine List.Sublist.cons _ ?_)) (yld_field_z rfl F.fi99_1 F.ti97) rfl ?_
          refine any_take (listed' := [true, true, true, true, true, true, true, true, true, true, false, false].toArray) 9 rfl rfl rfl (by kernel_rfl) (by kernel_rfl) (by kernel_rfl) (by repeat (first | exact List.Sublist.refl _ | exact List.nil_sublist _ | refine List.Sublist.cons_cons _ ?_ | refine List.Sublist.cons _ ?_)) (yld_index_arr (j := k) rfl rfl Tryd.underlying97 F.ti95 rfl hk64) rfl ?_
          refine any_take (listed' := [true, true, true, true, true, true, true, true, true, true, true, false].toArray) 10 rfl rfl rfl (by kernel_rfl) (by kernel_rfl) (by kernel_rfl) (by repeat (first | exact List.Sublist.refl _ | exact List.nil_sublist _ | refine List.Sublist.cons_cons _ ?_ | refine List.Sublist.cons _ ?_)) (yld_loadN_at (l := [.int .i64 ((ps.getD k default).cost : Int), .int .i64 ((ps.getD k default).puts : Int), .bool (ps.getD k default).known]) rfl F.agg95 F.ti95 rfl (fun a w ha j u hu => cell_of_blk (ha.mem_blk (InB.mem (b := b13))) (mcells_get _ ps hps hu))) rfl ?_
          refine any_one (listed' := [true, true, true, true, true, true, true, true, true, true, true, true].toArray) 11 (by kernel_rfl) rfl rfl ?_
          refine lst_call (X := Unit) (first := []) (cap := []) (vs := [_, _]) (p := fun _ => True) (val := fun _ => .bool (lessP (afterP ps x k) (ps.getD k default))) (rs := fun _ => .blk b11 (.cells [.int .i64 ((afterP ps x k).cost : Int), .int .i64 ((afterP ps x k).puts : Int), .bool (afterP ps x k).known].toArray 95 (0, 0)) :: .blk b13 (.cells (mcells (.func (.func 116) #[] #[]) ps).toArray 99 (0, 0)) :: .row 3 1 cA (canTo ags used k ags.length).length cc (ints (canTo ags used k ags.length)) :: .blk b2 (.cells [.slice (some ⟨gA, 0, none⟩) ags.length cg, .int .u8 (used : Int)].toArray 75 (0, 0)) :: T) rfl rfl rfl F.ent116 (fun a w ha => (less_c (afterP ps x k) (ps.getD k default) w).mono (fun e w' h => by exact ⟨(), trivial, h.1, ha.more h.2⟩)) ?_
          rintro ⟨⟩ -
          dsimp only
          refine lst_nil ?_
          refine any_next (by repeat (first | exact List.Sublist.refl _ | exact List.nil_sublist _ | refine List.Sublist.cons_cons _ ?_ | refine List.Sublist.cons _ ?_)) ?_
          refine any_done rfl (by kernel_rfl) ?_
          refine ex_then ?_
          refine cod_cond_bool rfl (fun hc3 => ?_) (fun hc3 => ?_)
          · skip
            have hr : relax ags k (ps, ch) i = (ps.set k (afterP ps x k), true) := by unfold relax; rw [hxd]; exact if_pos hc3
            rw [hr] at hsn
            refine any_begin [.b b13] F.follows 8 rfl [false, false, false, false, false, false, false, false] rfl ?_
            refine any_take (listed' := [true, false, false, false, false, false, false, false].toArray) 0 rfl rfl rfl (by kernel_rfl) (by kernel_rfl) (by kernel_rfl) (by repeat (first | exact List.Sublist.refl _ | exact List.nil_sublist _ | refine List.Sublist.cons_cons _ ?_ | refine List.Sublist.cons _ ?_)) (yld_move rfl) rfl ?_
            refine any_take (listed' := [true, true, false, false, false, false, false, false].toArray) 1 rfl rfl rfl (by kernel_rfl) (by kernel_rfl) (by kernel_rfl) (by repeat (first | exact List.Sublist.refl _ | exact List.nil_sublist _ | refine List.Sublist.cons_cons _ ?_ | refine List.Sublist.cons _ ?_)) (yld_move rfl) rfl ?_
            refine any_take (listed' := [true, true, true, false, false, false, false, false].toArray) 2 rfl rfl rfl (by kernel_rfl) (by kernel_rfl) (by kernel_rfl) (by repeat (first | exact List.Sublist.refl _ | exact List.nil_sublist _ | refine List.Sublist.cons_cons _ ?_ | refine List.Sublist.cons _ ?_)) (yld_loadN rfl F.agg95 F.ti95) rfl ?_
            refine any_take (listed' := [true, true, true, true, false, false, false, false].toArray) 3 rfl rfl rfl (by kernel_rfl) (by kernel_rfl) (by kernel_rfl) (by repeat (first | exact List.Sublist.refl _ | exact List.nil_sublist _ | refine List.Sublist.cons_cons _ ?_ | refine List.Sublist.cons _ ?_)) (yld_nilCheck rfl) rfl ?_
            refine any_take (listed' := [true, true, true, true, true, false, false, false].toArray) 4 rfl rfl rfl (by kernel_rfl) (by kernel_rfl) (by kernel_rfl) (by repeat (first | exact List.Sublist.refl _ | exact List.nil_sublist _ | refine List.Sublist.cons_cons _ ?_ | refine List.Sublist.cons _ ?_)) (yld_field_z rfl F.fi99_1 F.ti97) rfl ?_
            refine any_take (listed' := [true, true, true, true, true, true, false, false].toArray) 5 rfl rfl rfl (by kernel_rfl) (by kernel_rfl) (by kernel_rfl) (by repeat (first | exact List.Sublist.refl _ | exact List.nil_sublist _ | refine List.Sublist.cons_cons _ ?_ | refine List.Sublist.cons _ ?_)) (yld_index_arr (j := k) rfl rfl Tryd.underlying97 F.ti95 rfl hk64) rfl ?_
            refine any_one (listed' := [true, true, true, true, true, true, true, false].toArray) 6 (by kernel_rfl) rfl rfl ?_
            refine lst_store (hs := mcells_splice (.func (.func 116) #[] #[]) ps hkl (afterP ps x k)) rfl rfl F.ti95 rfl ?_
            refine lst_nil ?_
            refine any_next (by repeat (first | exact List.Sublist.refl _ | exact List.nil_sublist _ | refine List.Sublist.cons_cons _ ?_ | refine List.Sublist.cons _ ?_)) ?_
            refine any_take (listed' := [true, true, true, true, true, true, true, true].toArray) 7 rfl rfl rfl (by kernel_rfl) (by kernel_rfl) (by kernel_rfl) (by repeat (first | exact List.Sublist.refl _ | exact List.nil_sublist _ | refine List.Sublist.cons_cons _ ?_ | refine List.Sublist.cons _ ?_)) (yld_assign rfl) rfl ?_
            refine any_done rfl (by kernel_rfl) ?_
            refine ex_block_normal ?_
            refine ex_then ?_
            refine cod_region ?_
            refine lst_int rfl rfl rfl (fun w => bin_add w (wrap_i64' _ (by omega) (by omega))) ?_
            refine lst_move rfl rfl ?_
            refine lst_nil ?_
            refine ex_round' (t + 1) (by omega) (by (try dsimp only); omega) (by (try dsimp only); rw [hsn]; repeat (first | exact Sub.nil _ | refine Sub.cons rfl ?_)) (by (try dsimp only); rw [hsn]; repeat (first | exact Pck.nil _ | exact Pck.refl _ | (apply Pck.cons; focus ((repeat (first | exact Rem.here _ | apply Rem.there)); done)) | refine Pck.skip _ ?_))
          · skip
            have hr : relax ags k (ps, ch) i = (ps, ch) := by unfold relax; rw [hxd]; exact if_neg (by rw [hc3]; exact Bool.false_ne_true)
            rw [hr] at hsn
            refine cod_skip ?_
            refine ex_block_normal ?_
            refine ex_then ?_
            refine cod_region ?_
            refine lst_int rfl rfl rfl (fun w => bin_add w (wrap_i64' _ (by omega) (by omega))) ?_
            refine lst_move rfl rfl ?_
            refine lst_nil ?_
            refine ex_round' (t + 1) (by omega) (by (try dsimp only); omega) (by (try dsimp only); rw [hsn]; repeat (first | exact Sub.nil _ | refine Sub.cons rfl ?_)) (by (try dsimp only); rw [hsn]; repeat (first | exact Pck.nil _ | exact Pck.refl _ | (apply Pck.cons; focus ((repeat (first | exact Rem.here _ | apply Rem.there)); done)) | refine Pck.skip _ ?_))
        · skip
          obtain rfl : t = (canTo ags used k ags.length).length := by omega
          rw [List.take_length]
          refine cod_exit ?_
          refine ex_then_exit ?_
          refine ex_then_exit ?_
          refine ex_block_exit ?_
          refine ex_block_normal ?_
          refine ex_then ?_
          refine cod_region ?_
          refine lst_int rfl rfl rfl (fun w => bin_add w (wrap_i64' _ (by omega) (by omega))) ?_
          refine lst_move rfl rfl ?_
          refine lst_nil ?_
          refine ex_round (k + 1) (by omega) (by (try dsimp only); omega) (by repeat (first | exact Sub.nil _ | refine Sub.cons rfl ?_)) (by repeat (first | exact List.Sublist.refl _ | exact List.nil_sublist _ | refine List.Sublist.cons_cons _ ?_ | refine List.Sublist.cons _ ?_))
      · skip
        obtain rfl : k = 64 := by omega
        refine cod_exit ?_
        refine ex_then_exit ?_
        refine ex_then_exit ?_
        refine ex_block_exit ?_
        refine ex_then ?_
        refine cod_seq ?_
        refine cod_seq ?_
        refine cod_region ?_
        refine lst_move rfl rfl ?_
        refine lst_nil ?_
        refine ex_then ?_
        refine cod_cond_bool rfl (fun hc4 => ?_) (fun hc4 => ?_)
        · skip
          have hjN' : j < N := by
            rcases Nat.lt_or_ge j N with h | h
            · exact h
            · obtain rfl : j = N := by omega
              rw [hN] at hc4; cases hc4
          refine cod_goto ?_
          refine ex_then_goto ?_
          exact ex_jump_goto (j + 1, b13) (by (try dsimp only); omega) (by repeat (first | exact Sub.nil _ | refine Sub.cons rfl ?_)) (by repeat (first | exact Pck.nil _ | exact Pck.refl _ | (apply Pck.cons; focus ((repeat (first | exact Rem.here _ | apply Rem.there)); done)) | refine Pck.skip _ ?_))
        · skip
          refine cod_skip ?_
          refine ex_then ?_
          refine cod_seq ?_
          refine cod_region ?_
          refine lst_move rfl rfl ?_
          refine lst_assign rfl rfl ?_
          refine lst_nil ?_
          refine ex_then ?_
          refine cod_ret ?_
          refine ex_jump_ret ?_
          exact ex_ret rfl (fun a w ha => res_one rfl rfl ha) (fun _ _ ha' => ⟨j, b13, hjN, hc4, rfl, ha.back (ha'.pck (by repeat (first | exact Pck.nil _ | exact Pck.refl _ | (apply Pck.cons; focus ((repeat (first | exact Rem.here _ | apply Rem.there)); done)) | refine Pck.skip _ ?_)))⟩)
  · skip
    rintro ⟨j, b13⟩ hjN
    dsimp only at hjN ⊢
    refine cod_seq ?_
    refine cod_skip ?_
    refine ex_then ?_
    refine cod_seq ?_
    refine cod_region ?_
    refine lst_assign rfl rfl ?_
    refine lst_nil ?_
    refine ex_then ?_
    refine cod_seq ?_
    refine cod_seq ?_
    refine cod_region ?_
    refine lst_move rfl rfl ?_
    refine lst_nil ?_
    refine ex_then ?_
    refine cod_block ?_
    refine cod_loop (G := Nat) (fun k => k ≤ 64) (fun k => 64 - k) (fun k => [(1, .int .u8 (p : Int)), (2, .pointer (some ⟨b2, 0, none⟩)), (5, .pointer (some ⟨b13, 0, none⟩)), (7, .bool (roundP ags used (iterP ags used p j) k).2), (28, .int .i64 (k : Int))]) (fun k => .blk b13 (.cells (mcells (.func (.func 116) #[] #[]) (roundP ags used (iterP ags used p j) k).1).toArray 99 (0, 0)) :: .blk b2 (.cells [.slice aA ags.length cg, .int .u8 (used : Int)].toArray 75 (0, 0)) :: T) 0 (Nat.zero_le _) (by repeat (first | exact Sub.nil _ | refine Sub.cons rfl ?_)) (by repeat (first | exact List.Sublist.refl _ | exact List.nil_sublist _ | refine List.Sublist.cons_cons _ ?_ | refine List.Sublist.cons _ ?_)) ?_
    intro k hk
    (try dsimp only at hk ⊢)
    refine cod_seq ?_
    refine cod_region ?_
    refine lst_int rfl rfl rfl bin_lss ?_
    refine lst_nil ?_
    refine ex_then ?_
    refine cod_seq ?_
    refine cod_cond_dec rfl (fun hc1 => ?_) (fun hc1 => ?_)
    · skip
      have hk64 : k < 64 := by omega
      refine cod_skip ?_
      refine ex_then ?_
      refine cod_seq ?_
      refine cod_block ?_
      refine cod_seq ?_
      refine cod_region ?_
      refine lst_move rfl rfl ?_
      refine lst_assign rfl rfl ?_
      refine lst_nil ?_
      refine ex_then ?_
      refine cod_seq ?_
      refine cod_region ?_
      refine lst_loadN rfl rfl F.agg75 F.ti75 ?_
      refine lst_move rfl rfl ?_
      refine lst_convert rfl rfl Tryd.underlying3 Tryd.underlying77 (wrap_u8 _ (by omega)) ?_
      refine lst_fn (X := Option Addr × Nat) (vs := [_, _]) (p := fun _ => True) (val := fun x => .slice x.1 (canTo ags used k ags.length).length x.2) (rs := fun x => [.row 3 1 x.1 (canTo ags used k ags.length).length x.2 (ints (canTo ags used k ags.length))]) rfl rfl F.ent89 (fun a w ha => (can_c aA cg ags used k hok hu (by omega) w (rd_now ha hB hRd)).mono (fun e w' h => by obtain ⟨A', c', h1, h2⟩ := h; exact ⟨(A', c'), trivial, h1, h2⟩)) ?_
      rintro ⟨cA, cc⟩ -
      dsimp only [List.cons_append, List.nil_append]
      refine lst_len rfl rfl Tryd.underlying25 ?_
      refine lst_move rfl rfl ?_
      refine lst_nil ?_
      refine ex_then ?_
      refine cod_block ?_
      refine cod_loop (G := Nat) (fun t => t ≤ (canTo ags used k ags.length).length) (fun t => (canTo ags used k ags.length).length - t) (fun t => [(1, .int .u8 (p : Int)), (2, .pointer (some ⟨b2, 0, none⟩)), (5, .pointer (some ⟨b13, 0, none⟩)), (7, .bool (relaxF ags k (roundP ags used (iterP ags used p j) k) ((canTo ags used k ags.length).take t)).2), (28, .int .i64 (k : Int)), (8, .int .i64 (k : Int)), (34, .slice cA (canTo ags used k ags.length).length cc), (35, .int .i64 ((canTo ags used k ags.length).length : Int)), (36, .int .i64 (t : Int))]) (fun t => .row 3 1 cA (canTo ags used k ags.length).length cc (ints (canTo ags used k ags.length)) :: .blk b13 (.cells (mcells (.func (.func 116) #[] #[]) (relaxF ags k (roundP ags used (iterP ags used p j) k) ((canTo ags used k ags.length).take t)).1).toArray 99 (0, 0)) :: .blk b2 (.cells [.slice aA ags.length cg, .int .u8 (used : Int)].toArray 75 (0, 0)) :: T) 0 (Nat.zero_le _) (by repeat (first | exact Sub.nil _ | refine Sub.cons rfl ?_)) (by repeat (first | exact List.Sublist.refl _ | exact List.nil_sublist _ | refine List.Sublist.cons_cons _ ?_ | refine List.Sublist.cons _ ?_)) ?_
      intro t ht
      (try dsimp only at hk ⊢)
      refine cod_seq ?_
      refine cod_region ?_
      refine lst_int rfl rfl rfl bin_lss ?_
      refine lst_nil ?_
      refine ex_then ?_
      refine cod_seq ?_
      refine cod_cond_dec rfl (fun hc2 => ?_) (fun hc2 => ?_)
      · skip
        have ht' : t < (canTo ags used k ags.length).length := by omega
        have hcl := canTo_len ags used k ags.length
        have hol := hok.1
        obtain ⟨i, hci⟩ : ∃ i, (canTo ags used k ags.length)[t]? = some i := ⟨_, List.getElem?_eq_getElem ht'⟩
        obtain ⟨hi', _, _⟩ := canTo_mem (List.mem_of_getElem? hci)
        obtain ⟨gA, hgA⟩ := hA0 (show 0 < ags.length by omega)
        subst hgA
        obtain ⟨x, hx⟩ : ∃ x, ags[i]? = some x := ⟨_, List.getElem?_eq_getElem hi'⟩
        have hxo : x.ok := hok.2 x (List.mem_of_getElem? hx)
        have hxd : ags.getD i default = x := by rw [List.getD_eq_getElem?_getD, hx]; rfl
        have hBd := Bd.at (used := used) (p := p) hok j k t (by omega)
        have hsn := relaxF_snoc (ags := ags) (f := k) (s := (roundP ags used (iterP ags used p j) k)) hci
        obtain ⟨ps, ch, hpc⟩ : ∃ ps ch, (relaxF ags k (roundP ags used (iterP ags used p j) k) ((canTo ags used k ags.length).take t)) = (ps, ch) := ⟨_, _, rfl⟩
        rw [hpc] at hBd hsn ⊢
        have hps : ps[k]? = some (ps.getD k default) := getD_some (by rw [hBd.1]; exact hk64)
        have hkl : k < ps.length := by rw [hBd.1]; exact hk64
        dsimp only
        refine cod_skip ?_
        refine ex_then ?_
        refine cod_seq ?_
        refine cod_block ?_
        refine cod_seq ?_
        refine cod_region ?_
        refine lst_index_row (j := t) rfl rfl rfl Tryd.underlying25 F.ti3 rfl ht' rfl rfl ?_
        intro gC hgC
        refine lst_load_row (v := .int .i64 (i : Int)) rfl rfl F.one3 hgC (ints_get hci) ?_
        refine lst_assign rfl rfl ?_
        refine lst_nil ?_
        refine ex_then ?_
        refine cod_seq ?_
        refine cod_region ?_
        refine lst_move rfl rfl ?_
        refine lst_field_z rfl rfl F.fi75_0 F.ti72 ?_
        refine lst_load rfl rfl F.one72 ?_
        refine lst_move rfl rfl ?_
        refine lst_index (j := i) rfl rfl rfl Tryd.underlying72 F.ti89 rfl hi' ?_
        refine lst_loadN_at (l := [.int .i64 (x.needs : Int), .int .i64 (x.no : Int), .int .i64 (x.takes : Int), .int .i64 (x.leaves : Int), .int .i64 (x.cost : Int)]) rfl rfl F.agg89 F.ti89 rfl (fun a w ha j u hu => rd_at ha hB hRd hx hu) ?_
        refine lst_move rfl rfl ?_
        refine lst_convert rfl rfl Tryd.underlying3 Tryd.underlying77 (wrap_u8 _ (by omega)) ?_
        refine lst_call (X := Unit) (first := []) (cap := []) (vs := [_, _, _]) (p := fun _ => True) (val := fun _ => .agg [.int .i64 ((afterP ps x k).cost : Int), .int .i64 ((afterP ps x k).puts : Int), .bool (afterP ps x k).known].toArray) (rs := fun _ => .blk b13 (.cells (mcells (.func (.func 116) #[] #[]) ps).toArray 99 (0, 0)) :: .row 3 1 cA (canTo ags used k ags.length).length cc (ints (canTo ags used k ags.length)) :: .blk b2 (.cells [.slice (some ⟨gA, 0, none⟩) ags.length cg, .int .u8 (used : Int)].toArray 75 (0, 0)) :: T) rfl rfl rfl F.ent90 (fun a w ha => (after_c (bm := b13) (x := x) (f := k) (T := .row 3 1 cA (canTo ags used k ags.length).length cc (ints (canTo ags used k ags.length)) :: .blk b2 (.cells [.slice (some ⟨gA, 0, none⟩) ags.length cg, .int .u8 (used : Int)].toArray 75 (0, 0)) :: T) rfl hxo hk64 hBd (by omega) (ha.pck (by repeat (first | exact Pck.nil _ | exact Pck.refl _ | (apply Pck.cons; focus ((repeat (first | exact Rem.here _ | apply Rem.there)); done)) | refine Pck.skip _ ?_)))).mono (fun e w' h => ⟨(), trivial, h.1, h.2⟩)) ?_
        rintro ⟨⟩ -
        dsimp only
        refine lst_alloc rfl F.ti95 ?_
        intro b11
        refine lst_store rfl rfl F.ti95 rfl ?_
        refine lst_nil ?_
        refine ex_then ?_
        refine cod_seq ?_
        refine any_begin [] F.follows 12 rfl [false, false, false, false, false, false, false, false, false, false, false, false] rfl ?_
        refine any_take (listed' := [true, false, false, false, false, false, false, false, false, false, false, false].toArray) 0 rfl rfl rfl (by kernel_rfl) (by kernel_rfl) (by kernel_rfl) (by repeat (first | exact List.Sublist.refl _ | exact List.nil_sublist _ | refine List.Sublist.cons_cons _ ?_ | refine List.Sublist.cons _ ?_)) (yld_move rfl) rfl ?_
        refine any_take (listed' := [true, true, false, false, false, false, false, false, false, false, false, false].toArray) 1 rfl rfl rfl (by kernel_rfl) (by kernel_rfl) (by kernel_rfl) (by repeat (first | exact List.Sublist.refl _ | exact List.nil_sublist _ | refine List.Sublist.cons_cons _ ?_ | refine List.Sublist.cons _ ?_)) (yld_nilCheck rfl) rfl ?_
        refine any_take (listed' := [true, true, true, false, false, false, false, false, false, false, false, false].toArray) 2 rfl rfl rfl (by kernel_rfl) (by kernel_rfl) (by kernel_rfl) (by repeat (first | exact List.Sublist.refl _ | exact List.nil_sublist _ | refine List.Sublist.cons_cons _ ?_ | refine List.Sublist.cons _ ?_)) (yld_field_z rfl F.fi99_0 F.ti96) rfl ?_
        refine any_take (listed' := [true, true, true, true, false, false, false, false, false, false, false, false].toArray) 3 rfl rfl rfl (by kernel_rfl) (by kernel_rfl) (by kernel_rfl) (by repeat (first | exact List.Sublist.refl _ | exact List.nil_sublist _ | refine List.Sublist.cons_cons _ ?_ | refine List.Sublist.cons _ ?_)) (yld_load_at rfl F.one96 (fun a w ha => cell_of_blk (ha.mem_blk (InB.mem (b := b13))) rfl)) rfl ?_
        refine any_take (listed' := [true, true, true, true, true, false, false, false, false, false, false, false].toArray) 4 rfl rfl rfl (by kernel_rfl) (by kernel_rfl) (by kernel_rfl) (by repeat (first | exact List.Sublist.refl _ | exact List.nil_sublist _ | refine List.Sublist.cons_cons _ ?_ | refine List.Sublist.cons _ ?_)) (yld_loadN rfl F.agg95 F.ti95) rfl ?_
        refine any_take (listed' := [true, true, true, true, true, true, false, false, false, false, false, false].toArray) 5 rfl rfl rfl (by kernel_rfl) (by kernel_rfl) (by kernel_rfl) (by repeat (first | exact List.Sublist.refl _ | exact List.nil_sublist _ | refine List.Sublist.cons_cons _ ?_ | refine List.Sublist.cons _ ?_)) (yld_move rfl) rfl ?_
        refine any_take (listed' := [true, true, true, true, true, true, true, false, false, false, false, false].toArray) 6 rfl rfl rfl (by kernel_rfl) (by kernel_rfl) (by kernel_rfl) (by repeat (first | exact List.Sublist.refl _ | exact List.nil_sublist _ | refine List.Sublist.cons_cons _ ?_ | refine List.Sublist.cons _ ?_)) (yld_move rfl) rfl ?_
        refine any_take (listed' := [true, true, true, true, true, true, true, true, false, false, false, false].toArray) 7 rfl rfl rfl (by kernel_rfl) (by kernel_rfl) (by kernel_rfl) (by repeat (first | exact List.Sublist.refl _ | exact List.nil_sublist _ | refine List.Sublist.cons_cons _ ?_ | refine List.Sublist.cons _ ?_)) (yld_nilCheck rfl) rfl ?_
        refine any_take (listed' := [true, true, true, true, true, true, true, true, true, false, false, false].toArray) 8 rfl rfl rfl (by kernel_rfl) (by kernel_rfl) (by kernel_rfl) (by repeat (first | exact List.Sublist.refl _ | exact List.nil_sublist _ | refine List.Sublist.cons_cons _ ?_ | refine List.Sublist.cons _ ?_)) (yld_field_z rfl F.fi99_1 F.ti97) rfl ?_
        refine any_take (listed' := [true, true, true, true, true, true, true, true, true, true, false, false].toArray) 9 rfl rfl rfl (by kernel_rfl) (by kernel_rfl) (by kernel_rfl) (by repeat (first | exact List.Sublist.refl _ | exact List.nil_sublist _ | refine List.Sublist.cons_cons _ ?_ | refine List.Sublist.cons _ ?_)) (yld_index_arr (j := k) rfl rfl Tryd.underlying97 F.ti95 rfl hk64) rfl ?_
        refine any_take (listed' := [true, true, true, true, true, true, true, true, true, true, true, false].toArray) 10 rfl rfl rfl (by kernel_rfl) (by kernel_rfl) (by kernel_rfl) (by repeat (first | exact List.Sublist.refl _ | exact List.nil_sublist _ | refine List.Sublist.cons_cons _ ?_ | refine List.Sublist.cons _ ?_)) (yld_loadN_at (l := [.int .i64 ((ps.getD k default).cost : Int), .int .i64 ((ps.getD k default).puts : Int), .bool (ps.getD k default).known]) rfl F.agg95 F.ti95 rfl (fun a w ha j u hu => cell_of_blk (ha.mem_blk (InB.mem (b := b13))) (mcells_get _ ps hps hu))) rfl ?_
        refine any_one (listed' := [true, true, true, true, true, true, true, true, true, true, true, true].toArray) 11 (by kernel_rfl) rfl rfl ?_
        refine lst_call (X := Unit) (first := []) (cap := []) (vs := [_, _]) (p := fun _ => True) (val := fun _ => .bool (lessP (afterP ps x k) (ps.getD k default))) (rs := fun _ => .blk b11 (.cells [.int .i64 ((afterP ps x k).cost : Int), .int .i64 ((afterP ps x k).puts : Int), .bool (afterP ps x k).known].toArray 95 (0, 0)) :: .blk b13 (.cells (mcells (.func (.func 116) #[] #[]) ps).toArray 99 (0, 0)) :: .row 3 1 cA (canTo ags used k ags.length).length cc (ints (canTo ags used k ags.length)) :: .blk b2 (.cells [.slice (some ⟨gA, 0, none⟩) ags.length cg, .int .u8 (used : Int)].toArray 75 (0, 0)) :: T) rfl rfl rfl F.ent116 (fun a w ha => (less_c (afterP ps x k) (ps.getD k default) w).mono (fun e w' h => by exact ⟨(), trivial, h.1, ha.more h.2⟩)) ?_
        rintro ⟨⟩ -
        dsimp only
        refine lst_nil ?_
        refine any_next (by repeat (first | exact List.Sublist.refl _ | exact List.nil_sublist _ | refine List.Sublist.cons_cons _ ?_ | refine List.Sublist.cons _ ?_)) ?_
        refine any_done rfl (by kernel_rfl) ?_
        refine ex_then ?_
        refine cod_cond_bool rfl (fun hc3 => ?_) (fun hc3 => ?_)
        · skip
          have hr : relax ags k (ps, ch) i = (ps.set k (afterP ps x k), true) := by unfold relax; rw [hxd]; exact if_pos hc3
          rw [hr] at hsn
          refine any_begin [.b b13] F.follows 8 rfl [false, false, false, false, false, false, false, false] rfl ?_
          refine any_take (listed' := [true, false, false, false, false, false, false, false].toArray) 0 rfl rfl rfl (by kernel_rfl) (by kernel_rfl) (by kernel_rfl) (by repeat (first | exact List.Sublist.refl _ | exact List.nil_sublist _ | refine List.Sublist.cons_cons _ ?_ | refine List.Sublist.cons _ ?_)) (yld_move rfl) rfl ?_
          refine any_take (listed' := [true, true, false, false, false, false, false, false].toArray) 1 rfl rfl rfl (by kernel_rfl) (by kernel_rfl) (by kernel_rfl) (by repeat (first | exact List.Sublist.refl _ | exact List.nil_sublist _ | refine List.Sublist.cons_cons _ ?_ | refine List.Sublist.cons _ ?_)) (yld_move rfl) rfl ?_
          refine any_take (listed' := [true, true, true, false, false, false, false, false].toArray) 2 rfl rfl rfl (by kernel_rfl) (by kernel_rfl) (by kernel_rfl) (by repeat (first | exact List.Sublist.refl _ | exact List.nil_sublist _ | refine List.Sublist.cons_cons _ ?_ | refine List.Sublist.cons _ ?_)) (yld_loadN rfl F.agg95 F.ti95) rfl ?_
          refine any_take (listed' := [true, true, true, true, false, false, false, false].toArray) 3 rfl rfl rfl (by kernel_rfl) (by kernel_rfl) (by kernel_rfl) (by repeat (first | exact List.Sublist.refl _ | exact List.nil_sublist _ | refine List.Sublist.cons_cons _ ?_ | refine List.Sublist.cons _ ?_)) (yld_nilCheck rfl) rfl ?_
          refine any_take (listed' := [true, true, true, true, true, false, false, false].toArray) 4 rfl rfl rfl (by kernel_rfl) (by kernel_rfl) (by kernel_rfl) (by repeat (first | exact List.Sublist.refl _ | exact List.nil_sublist _ | refine List.Sublist.cons_cons _ ?_ | refine List.Sublist.cons _ ?_)) (yld_field_z rfl F.fi99_1 F.ti97) rfl ?_
          refine any_take (listed' := [true, true, true, true, true, true, false, false].toArray) 5 rfl rfl rfl (by kernel_rfl) (by kernel_rfl) (by kernel_rfl) (by repeat (first | exact List.Sublist.refl _ | exact List.nil_sublist _ | refine List.Sublist.cons_cons _ ?_ | refine List.Sublist.cons _ ?_)) (yld_index_arr (j := k) rfl rfl Tryd.underlying97 F.ti95 rfl hk64) rfl ?_
          refine any_one (listed' := [true, true, true, true, true, true, true, false].toArray) 6 (by kernel_rfl) rfl rfl ?_
          refine lst_store (hs := mcells_splice (.func (.func 116) #[] #[]) ps hkl (afterP ps x k)) rfl rfl F.ti95 rfl ?_
          refine lst_nil ?_
          refine any_next (by repeat (first | exact List.Sublist.refl _ | exact List.nil_sublist _ | refine List.Sublist.cons_cons _ ?_ | refine List.Sublist.cons _ ?_)) ?_
          refine any_take (listed' := [true, true, true, true, true, true, true, true].toArray) 7 rfl rfl rfl (by kernel_rfl) (by kernel_rfl) (by kernel_rfl) (by repeat (first | exact List.Sublist.refl _ | exact List.nil_sublist _ | refine List.Sublist.cons_cons _ ?_ | refine List.Sublist.cons _ ?_)) (yld_assign rfl) rfl ?_
          refine any_done rfl (by kernel_rfl) ?_
          refine ex_block_normal ?_
          refine ex_then ?_
          refine cod_region ?_
          refine lst_int rfl rfl rfl (fun w => bin_add w (wrap_i64' _ (by omega) (by omega))) ?_
          refine lst_move rfl rfl ?_
          refine lst_nil ?_
          refine ex_round' (t + 1) (by omega) (by (try dsimp only); omega) (by (try dsimp only); rw [hsn]; repeat (first | exact Sub.nil _ | refine Sub.cons rfl ?_)) (by (try dsimp only); rw [hsn]; repeat (first | exact Pck.nil _ | exact Pck.refl _ | (apply Pck.cons; focus ((repeat (first | exact Rem.here _ | apply Rem.there)); done)) | refine Pck.skip _ ?_))
        · skip
          have hr : relax ags k (ps, ch) i = (ps, ch) := by unfold relax; rw [hxd]; exact if_neg (by rw [hc3]; exact Bool.false_ne_true)
          rw [hr] at hsn
          refine cod_skip ?_
          refine ex_block_normal ?_
          refine ex_then ?_
          refine cod_region ?_
          refine lst_int rfl rfl rfl (fun w => bin_add w (wrap_i64' _ (by omega) (by omega))) ?_
          refine lst_move rfl rfl ?_
          refine lst_nil ?_
          refine ex_round' (t + 1) (by omega) (by (try dsimp only); omega) (by (try dsimp only); rw [hsn]; repeat (first | exact Sub.nil _ | refine Sub.cons rfl ?_)) (by (try dsimp only); rw [hsn]; repeat (first | exact Pck.nil _ | exact Pck.refl _ | (apply Pck.cons; focus ((repeat (first | exact Rem.here _ | apply Rem.there)); done)) | refine Pck.skip _ ?_))
      · skip
        obtain rfl : t = (canTo ags used k ags.length).length := by omega
        rw [List.take_length]
        refine cod_exit ?_
        refine ex_then_exit ?_
        refine ex_then_exit ?_
        refine ex_block_exit ?_
        refine ex_block_normal ?_
        refine ex_then ?_
        refine cod_region ?_
        refine lst_int rfl rfl rfl (fun w => bin_add w (wrap_i64' _ (by omega) (by omega))) ?_
        refine lst_move rfl rfl ?_
        refine lst_nil ?_
        refine ex_round (k + 1) (by omega) (by (try dsimp only); omega) (by repeat (first | exact Sub.nil _ | refine Sub.cons rfl ?_)) (by repeat (first | exact List.Sublist.refl _ | exact List.nil_sublist _ | refine List.Sublist.cons_cons _ ?_ | refine List.Sublist.cons _ ?_))
    · skip
      obtain rfl : k = 64 := by omega
      refine cod_exit ?_
      refine ex_then_exit ?_
      refine ex_then_exit ?_
      refine ex_block_exit ?_
      refine ex_then ?_
      refine cod_seq ?_
      refine cod_seq ?_
      refine cod_region ?_
      refine lst_move rfl rfl ?_
      refine lst_nil ?_
      refine ex_then ?_
      refine cod_cond_bool rfl (fun hc4 => ?_) (fun hc4 => ?_)
      · skip
        have hjN' : j < N := by
          rcases Nat.lt_or_ge j N with h | h
          · exact h
          · obtain rfl : j = N := by omega
            rw [hN] at hc4; cases hc4
        refine cod_goto ?_
        refine ex_then_goto ?_
        exact ex_jump_again (j + 1, b13) (by (try dsimp only); omega) (by (try dsimp only); omega) (by repeat (first | exact Sub.nil _ | refine Sub.cons rfl ?_)) (by repeat (first | exact Pck.nil _ | exact Pck.refl _ | (apply Pck.cons; focus ((repeat (first | exact Rem.here _ | apply Rem.there)); done)) | refine Pck.skip _ ?_))
      · skip
        refine cod_skip ?_
        refine ex_then ?_
        refine cod_seq ?_
        refine cod_region ?_
        refine lst_move rfl rfl ?_
        refine lst_assign rfl rfl ?_
        refine lst_nil ?_
        refine ex_then ?_
        refine cod_ret ?_
        refine ex_jump_ret ?_
        exact ex_ret rfl (fun a w ha => res_one rfl rfl ha) (fun _ _ ha' => ⟨j, b13, hjN, hc4, rfl, ha.back (ha'.pck (by repeat (first | exact Pck.nil _ | exact Pck.refl _ | (apply Pck.cons; focus ((repeat (first | exact Rem.here _ | apply Rem.there)); done)) | refine Pck.skip _ ?_)))⟩)

theorem hopeful2_c {C : Ctx} {fr : List (Nat × Value)} {T : List Res} {a : Act} {w : World} (hC : C.P = Tryd.prog) {ags : List Ag} {used p cg : Nat} {aA : Option Addr} (hok : Oks ags) (hu : used < 256) (hp : p < 64) (hB : C.w0.heap.size = C.B) (hRd : RdL Ag.cells 5 C.w0 aA ags) (hA0 : 0 < ags.length → ∃ g, aA = some ⟨g, 0, none⟩) (ha : At C fr (T) a w) : Calls C.P 100 #[.agg [.slice aA ags.length cg, .int .u8 (used : Int)].toArray, .int .u8 (p : Int)] w fun e w' => ∃ n, SetN n (Clr ags used p) ∧ e = .returned (.int .u64 (n : Int)) ∧ At C fr T a w' := by
  obtain ⟨P, B, w0, N0, ds⟩ := C
  obtain rfl : P = Tryd.prog := hC
  (try dsimp only at hB)
  (try dsimp only at hN)
  refine enter_in (N := 26) [(0, .agg [.slice aA ags.length cg, .int .u8 (used : Int)].toArray), (1, .int .u8 (p : Int))] ha Tryd.func100 rfl Tryd.ntmps100 rfl rfl ?_
  refine cod_seq ?_
  refine cod_region ?_
  refine lst_box rfl rfl ?_
  intro b2
  refine lst_assign rfl rfl ?_
  refine lst_nil ?_
  refine ex_then ?_
  refine cod_seq ?_
  refine cod_region ?_
  refine lst_assign rfl rfl ?_
  refine lst_nil ?_
  refine ex_then ?_
  refine cod_seq ?_
  refine cod_seq ?_
  refine cod_region ?_
  refine lst_loadN rfl rfl F.agg75 F.ti75 ?_
  refine lst_move rfl rfl ?_
  refine lst_call (X := Nat × Nat) (first := []) (cap := []) (vs := [_, _]) (p := fun y => (roundP ags used (iterP ags used p y.1) 64).2 = false) (val := fun y => .pointer (some ⟨y.2, 0, none⟩)) (rs := fun y => .blk y.2 (.cells (mcells (.func (.func 116) #[] #[]) (iterP ags used p (y.1 + 1))).toArray 99 (0, 0)) :: .blk b2 (.cells [.slice aA ags.length cg, .int .u8 (used : Int)].toArray 75 (0, 0)) :: T) rfl rfl rfl F.ent88 (fun a w ha => by
    obtain ⟨N, h64, hN⟩ := fix_all (ags := ags) (used := used) (p := p) hok
    exact (prices2_c rfl hok hu hp h64 hN (by exact hB) (by exact hRd) hA0 ha).mono (fun e w' h => by obtain ⟨j, b, h1, h2, h3, h4⟩ := h; exact ⟨(j, b), h2, h3, h4⟩)) ?_
  rintro ⟨j, bm⟩ hfx
  dsimp only at hfx ⊢
  have hsame : iterP ags used p (j + 1) = iterP ags used p j := (round_ch 64 hfx).1
  rw [hsame]
  have hBd := Bd.iter (used := used) (p := p) hok j
  have hkn : ∀ f, f < 64 → (((iterP ags used p j).getD f default).known = true ↔ Clr ags used p f) := fun f hf => known_clr hok hfx hf
  obtain ⟨ps, hpsd⟩ : ∃ ps, iterP ags used p j = ps := ⟨_, rfl⟩
  rw [hpsd] at hBd hkn hfx ⊢
  refine lst_nilCheck rfl rfl ?_
  refine lst_field_z rfl rfl F.fi99_1 F.ti97 ?_
  refine lst_loadN_at (l := ps.flatMap Pr.cells) rfl rfl F.agg97 F.ti97 (by have := mcells_len (.func (.func 116) #[] #[]) ps; rw [hBd.1] at this; simp [mcells] at this; simpa using this) (fun a w ha j u hu => cell_of_blk (ha.mem_blk (InB.mem (b := bm))) (by rw [Nat.add_comm 1 j]; exact hu)) ?_
  refine lst_move rfl rfl ?_
  refine lst_nil ?_
  refine ex_then ?_
  refine cod_block ?_
  refine cod_loop' (G := Nat × Nat) (fun g => g.1 ≤ 64 ∧ g.2 < 18446744073709551616 ∧ ∀ f, f < 64 → (g.2.testBit f = true ↔ f < g.1 ∧ Clr ags used p f)) (fun g => 64 - g.1) (fun g => [(1, .int .u8 (p : Int)), (5, .int .u64 (g.2 : Int)), (13, .agg (ps.flatMap Pr.cells).toArray), (14, .int .i64 (g.1 : Int))]) (fun g => T) (0, 0) ⟨Nat.zero_le _, by decide, fun f _ => ⟨fun h => by simp at h, fun h => absurd h.1 (by omega)⟩⟩ (by repeat (first | exact Sub.nil _ | refine Sub.cons rfl ?_)) (by repeat (first | exact Pck.nil _ | exact Pck.refl _ | (apply Pck.cons; focus ((repeat (first | exact Rem.here _ | apply Rem.there)); done)) | refine Pck.skip _ ?_)) ?_
  rintro ⟨k, n⟩ ⟨hk64, hn, hI⟩
  dsimp only at hk64 hn hI ⊢
  refine cod_seq ?_
  refine cod_region ?_
  refine lst_int rfl rfl rfl bin_lss ?_
  refine lst_nil ?_
  refine ex_then ?_
  refine cod_seq ?_
  refine cod_cond_dec rfl (fun hc0 => ?_) (fun hc0 => ?_)
  · skip
    have hk' : k < 64 := by omega
    refine cod_skip ?_
    refine ex_then ?_
    refine cod_seq ?_
    refine cod_block ?_
    refine cod_seq ?_
    refine cod_region ?_
    refine lst_move rfl rfl ?_
    refine lst_index_v (j := k) (l := [.int .i64 ((ps.getD k default).cost : Int), .int .i64 ((ps.getD k default).puts : Int), .bool (ps.getD k default).known]) rfl rfl rfl Tryd.underlying97 F.agg95 F.ti95 rfl hk' (drop_pr ps k (by rw [hBd.1]; exact hk')) ?_
    refine lst_alloc rfl F.ti95 ?_
    intro b7
    refine lst_assign rfl rfl ?_
    refine lst_store rfl rfl F.ti95 rfl ?_
    refine lst_nil ?_
    refine ex_then ?_
    refine cod_seq ?_
    refine cod_region ?_
    refine lst_field_z rfl rfl F.fi95_2 F.ti4 ?_
    refine lst_load rfl rfl F.one4 ?_
    refine lst_nil ?_
    refine ex_then ?_
    refine cod_cond_bool rfl (fun hc1 => ?_) (fun hc1 => ?_)
    · skip
      refine cod_region ?_
      refine lst_move rfl rfl ?_
      refine lst_move rfl rfl ?_
      refine lst_convert rfl rfl Tryd.underlying3 Tryd.underlying77 (wrap_u8 _ (by omega)) ?_
      refine lst_fn0 (vs := [_, _]) rfl rfl F.ent121 (fun a w ha => mwith_c n k hn hk' w) ?_
      refine lst_assign rfl rfl ?_
      refine lst_nil ?_
      refine ex_block_normal ?_
      refine ex_then ?_
      refine cod_region ?_
      refine lst_int rfl rfl rfl (fun w => bin_add w (wrap_i64' _ (by omega) (by omega))) ?_
      refine lst_move rfl rfl ?_
      refine lst_nil ?_
      refine ex_round' (k + 1, n ||| 1 <<< k) ⟨by omega, or_one_lt hn hk', fun f hf => ?_⟩ (by (try dsimp only); omega) (by repeat (first | exact Sub.nil _ | refine Sub.cons rfl ?_)) (by repeat (first | exact Pck.nil _ | exact Pck.refl _ | (apply Pck.cons; focus ((repeat (first | exact Rem.here _ | apply Rem.there)); done)) | refine Pck.skip _ ?_))
      rw [testBit_or_one, Bool.or_eq_true, decide_eq_true_eq, hI f hf]
      have := (hkn k hk').1 hc1
      constructor
      · rintro (h | h)
        · exact ⟨by omega, h.2⟩
        · subst h; exact ⟨by omega, this⟩
      · rintro ⟨h1, h2⟩
        rcases Nat.lt_or_ge f k with h | h
        · exact .inl ⟨h, h2⟩
        · exact .inr (by omega)
    · skip
      refine cod_skip ?_
      refine ex_block_normal ?_
      refine ex_then ?_
      refine cod_region ?_
      refine lst_int rfl rfl rfl (fun w => bin_add w (wrap_i64' _ (by omega) (by omega))) ?_
      refine lst_move rfl rfl ?_
      refine lst_nil ?_
      refine ex_round' (k + 1, n) ⟨by omega, hn, fun f hf => ?_⟩ (by (try dsimp only); omega) (by repeat (first | exact Sub.nil _ | refine Sub.cons rfl ?_)) (by repeat (first | exact Pck.nil _ | exact Pck.refl _ | (apply Pck.cons; focus ((repeat (first | exact Rem.here _ | apply Rem.there)); done)) | refine Pck.skip _ ?_))
      rw [hI f hf]
      have hno : ¬ Clr ags used p k := fun h => by have := (hkn k hk').2 h; rw [hc1] at this; cases this
      constructor
      · rintro ⟨h1, h2⟩
        exact ⟨by omega, h2⟩
      · rintro ⟨h1, h2⟩
        rcases Nat.lt_or_ge f k with h | h
        · exact ⟨h, h2⟩
        · obtain rfl : f = k := by omega
          exact absurd h2 hno
  · skip
    refine cod_exit ?_
    refine ex_then_exit ?_
    refine ex_then_exit ?_
    refine ex_block_exit ?_
    refine ex_then ?_
    refine cod_seq ?_
    refine cod_region ?_
    refine lst_move rfl rfl ?_
    refine lst_assign rfl rfl ?_
    refine lst_nil ?_
    refine ex_then ?_
    refine cod_ret ?_
    obtain rfl : k = 64 := by omega
    exact ex_ret rfl (fun a w ha => res_one rfl rfl ha) (fun _ _ ha' => ⟨n, ⟨hn, fun f hf => (hI f hf).trans ⟨fun h => h.2, fun h => ⟨hf, h⟩⟩⟩, rfl, ha.back (ha'.pck (by repeat (first | exact Pck.nil _ | exact Pck.refl _ | (apply Pck.cons; focus ((repeat (first | exact Rem.here _ | apply Rem.there)); done)) | refine Pck.skip _ ?_)))⟩)

end Go.Proofs.YtofkhehcnfiopaaDoor.N
namespace Go.Proofs.YtofkhehcnfiopaaDoor.N
open Go Go.RowKit Go.Proofs
theorem caught_retIn (p : Option Addr) (w : World) : CallsDIn Fence.wide 0 Tryd.prog 74 #[.pointer p] .returning w fun e u w' => e = .returned (.tuple #[]) ∧ u = .returning ∧ w' = w := by
  refine callsDIn_of_wpSIn Tryd.func74 rfl trivial fun c₀ cs hu => ?_
  apply wpSIn_seq
  apply wpSIn_region
  simp [wpOpsSIn, go_sem, recoverD, hu, Tryd.ntmps74, Exit.thenS, Instr.typeAssert, Fence.wide, Oper.about]
  apply wpSIn_seq
  apply wpSIn_region
  simp [wpOpsSIn, go_sem, Exit.thenS, Fence.wide, Oper.about]
  refine wpSIn_cond (t := false) (by simp [Act.eval, Array.replicate]) ?_
  refine wpSIn_of_wpIn rfl (wpIn_skip ?_)
  simp only [bodyPostS]
  exact ⟨trivial, .returning, by rw [← hu], .tuple #[], by simp [results, Tryd.f74], by simp⟩
section
variable {C : Ctx} {fr : List (Nat × Value)} {hp hp' : List Res} {a : Act} {w : World} {Q : Exit → Act → World → Prop} {r : Nat}
/-- The statement, in terms of what is the call's own. -/
theorem cod_range2 {g : Operand} {ps : Array Tmp} {assign body : Code} {gf : FuncId} {lb : List Value} (hg : ev fr g = some (.func (.func gf) #[] lb.toArray)) (he : Enters C.P gf)
    (h : ∀ a w, At C fr hp a w → ∀ (r D : Nat) (rec : Loop) (W1 : World), rec.state = .ready → rec.pending = none → rec.tmps = a.tmps → rec.params = ps → rec.assign = assign → rec.body = body →
      r < W1.heap.size → D < W1.heap.size → At C fr (.blk r (.loop rec) :: .blk D (.deferred (some [])) :: hp) a W1 →
      Calls C.P gf (#[.func (.yield r) #[] #[]] ++ lb.toArray) W1 fun e w3 => (∃ v, e = .returned v) ∧ ∃ st pe, st ≠ .busy ∧ w3.heap[r]? = some (.loop { rec with state := st, pending := pe }) ∧
        (pe = none ∧ Q .normal { a with defers := { target := .collected D, args := #[] } :: a.defers } (w3.putObj r (.loop { rec with state := .exhausted, pending := pe })) ∨
         pe = some .ret ∧ Q .ret { a with defers := { target := .collected D, args := #[] } :: a.defers } (w3.putObj r (.loop { rec with state := .exhausted, pending := pe })))) :
    Cod C (.rangeFunc g ps assign body) Q fr hp := by
  refine cod_range hg he fun a w ha fn => ?_
  have h1 := (ha.alloc (.deferred (some []))).alloc (.loop (recOf fn a ps assign body w.heap.size .ready none))
  have h2 : (w.alloc (.deferred (some []))).heap.size = w.heap.size + 1 := by simp
  rw [h2] at h1
  have h3 := h a w ha (w.heap.size + 1) w.heap.size (recOf fn a ps assign body w.heap.size .ready none) _ rfl rfl rfl rfl rfl rfl (by simp) (by simp; omega) h1
  exact h3.mono fun e w3 hh => hh
theorem Mem.later {w' : World} (h : Mem C hp w) (hb : Below w.heap.size w w') : Mem C hp w' :=
  ⟨h.1.trans (hb.mono h.2.1), Nat.le_trans h.2.1 hb.size, fun r hr => Res.keep (h.2.2.1 r hr) (fun k hk => hb.block k (Res.lt (h.2.2.1 r hr) k hk).2), h.2.2.2⟩
theorem At.mem (ha : At C fr hp a w) : Mem C hp w := ha.toMem (List.Sublist.refl _)
/-- All that lies from H on. -/
def upRes (H : Nat) (W : World) : List Res := (List.range' H (W.heap.size - H)).map fun b => .blk b (W.heap.getD b default)
theorem upRes_ids (H : Nat) (W : World) : (upRes H W).filterMap Res.id = List.range' H (W.heap.size - H) := by
  unfold upRes
  rw [List.filterMap_map]
  rw [show (Res.id ∘ fun b => Res.blk b (W.heap.getD b default)) = some from rfl, List.filterMap_some]
theorem At.withUp {H : Nat} (ha : At C fr hp a w) (hH : C.B ≤ H) (hlt : ∀ k, k ∈ hp.filterMap Res.id → k < H) : At C fr (hp ++ upRes H w) a w := by
  refine ⟨ha.size, ha.defs, ha.slots, ha.below, ha.base, ?_, ?_⟩
  · intro r hr
    rcases List.mem_append.1 hr with h1 | h1
    · exact ha.own r h1
    · obtain ⟨b, hb, rfl⟩ := List.mem_map.1 h1
      have := List.mem_range'_1.1 hb
      refine ⟨by omega, ?_⟩
      rw [Array.getElem?_eq_getElem (by omega)]
      simp [Array.getD, show b < w.heap.size by omega]
  · rw [List.filterMap_append, List.nodup_append, upRes_ids]
    refine ⟨ha.apart, List.nodup_range', ?_⟩
    intro x hx y hy e
    subst e
    have h1 := hlt x hx
    have h2 := List.mem_range'_1.1 hy
    omega
theorem keepUp_of {H : Nat} {W : World} (ha : At C fr hp a w) (hs : ∀ r ∈ upRes H W, r ∈ hp) : KeepUp H W w := by
  refine ⟨trivial, fun b h1 h2 => ?_⟩
  have hm : Res.blk b (W.heap.getD b default) ∈ upRes H W := List.mem_map.2 ⟨b, List.mem_range'_1.2 ⟨h1, by omega⟩, rfl⟩
  rw [ha.mem_blk (hs _ hm), Array.getElem?_eq_getElem h2]
  simp [Array.getD, h2]
theorem KeepUp.sub {H : Nat} {W W2 w' : World} (hs : W.heap.size ≤ W2.heap.size) (h2 : ∀ b, H ≤ b → b < W.heap.size → W2.heap[b]? = W.heap[b]?) (h : KeepUp H W2 w') : KeepUp H W w' :=
  ⟨trivial, fun b h1 hb => (h.2 b h1 (by omega)).trans (h2 b h1 hb)⟩
theorem codR_of_eq {c c' : Code} (h : c = c') (k : CodR C r c' Q fr hp) : CodR C r c Q fr hp := h ▸ k
/-- The slots of a round. -/
theorem slots_round {N d : Nat} {v : Value} {tmps : Array Value} (ha : At C fr hp a w) (ht : tmps = a.tmps) (hN : C.N = N) (hd : Nat.blt d N = true) (W : World) :
    At ⟨C.P, W.heap.size, W, N, []⟩ ((d, v) :: fr) [] { tmps := (#[d].zip [v].toArray).foldl (fun t (x : Tmp × Value) => t.setIfInBounds x.1 x.2) tmps, defers := [] } W := by
  subst ht; subst hN
  have h0 : At ⟨C.P, W.heap.size, W, C.N, []⟩ fr [] { tmps := a.tmps, defers := [] } W := ⟨ha.size, rfl, ha.slots, Below.refl _ _, Nat.le_refl _, (fun r hr => by cases hr), List.nodup_nil⟩
  have e : (#[d].zip [v].toArray).foldl (fun t (x : Tmp × Value) => t.setIfInBounds x.1 x.2) a.tmps = a.tmps.setIfInBounds d v := by simp
  rw [e]
  exact h0.put (lt_of_blt hd) v
/-- .. of what is walked there on the wider ground. -/
theorem At.noDefers {P : Program} {B N : Nat} {w0 : World} {ds : List Deferred} (ha : At ⟨P, B, w0, N, ds⟩ fr hp a w) : At ⟨P, B, w0, N, []⟩ fr hp { a with defers := [] } w :=
  ⟨ha.size, rfl, ha.slots, ha.below, ha.base, ha.own, ha.apart⟩
theorem At.putRec {rec rec' : Loop} (ha : At C fr (.blk r (.loop rec) :: hp) a w) : At C fr (.blk r (.loop rec') :: hp) a (w.putObj r (.loop rec')) := by
  have hb := ha.own _ (List.mem_cons_self ..)
  refine ha.turn (Upd.head hp) ⟨rfl, rfl, rfl, by simp, fun k _ hk => World.putObj_heap_other (fun e => hk (by rw [e]; rfl))⟩ ⟨hb.1, ?_⟩ (fun k hk => .inl hk)
  exact World.putObj_heap_same (Array.getElem?_eq_some_iff.1 hb.2).1
theorem res_cc {fn : Func} {t u : Nat} {ty ct ty' ct' : TypeId} {x y : Value} {b b' : Nat} (h : fn.results = #[.cell t ty, .cell u ty']) (ht : look fr t = some (.pointer (some ⟨b, 0, none⟩))) (hu : look fr u = some (.pointer (some ⟨b', 0, none⟩))) (h1 : One C.P ty) (h2 : One C.P ty')
    [hm : InB b (.cells [x].toArray ct (0, 0)) hp] [hm' : InB b' (.cells [y].toArray ct' (0, 0)) hp] (ha : At C fr hp a w) : (results fn a.tmps).run C.P w = .ok (.tuple #[x, y]) w := by
  have e1 := ha.slots t _ ht
  have e2 := ha.slots u _ hu
  have c1 : w.cell? ⟨b, 0, none⟩ = some x := cell_of_blk (ha.mem_blk hm.mem) rfl
  have c2 : w.cell? ⟨b', 0, none⟩ = some y := cell_of_blk (ha.mem_blk hm'.mem) rfl
  have l1 : (loadVar ty ⟨b, 0, none⟩).run C.P w = .ok x w := by simp [loadVar, run_isAgg h1.1 h1.2, c1]
  have l2 : (loadVar ty' ⟨b', 0, none⟩).run C.P w = .ok y w := by simp [loadVar, run_isAgg h2.1 h2.2, c2]
  simp only [results, h, Array.getD_eq_getD_getElem?] at e1 e2 ⊢
  simp [e1, e2, run_asAddr, l1, l2]
/-- The end of a function that was left out of a round. -/
theorem marks_ret {B N D b : Nat} {w0 : World} {fn : Func} {R : Ending → World → Prop} {rec : Loop} {hp : List Res} {tmps : Array Value} {w : World} (hm : Mem ⟨Tryd.prog, B, w0, N, [caughtD b]⟩ (.blk r (.loop rec) :: .blk D (.deferred (some [])) :: hp) w) (rec' : Loop)
    (k : ∀ w', Mem ⟨Tryd.prog, B, w0, N, [caughtD b]⟩ hp w' → ∃ v, (results fn tmps).run Tryd.prog w' = .ok v w' ∧ R (.returned v) w') :
    LeavesInM Fence.wide 0 Tryd.prog fn tmps R [{ target := .collected D, args := #[] }, caughtD b] .returning (w.putObj r (.loop rec')) := by
  have at0 : At ⟨Tryd.prog, B, w0, 0, []⟩ [] (.blk r (.loop rec) :: .blk D (.deferred (some [])) :: hp) ⟨#[], []⟩ w := ⟨rfl, rfl, (fun t v h => (by cases h)), hm.1, hm.2.1, hm.2.2.1, hm.2.2.2⟩
  have at1 := (at0.putRec (rec' := rec')).permed (List.Perm.swap _ _ _)
  have hD := (at1.own _ (List.mem_cons_self ..)).2
  have at2 : At ⟨Tryd.prog, B, w0, 0, []⟩ [] (.blk D (.deferred none) :: .blk r (.loop rec') :: hp) ⟨#[], []⟩ ((w.putObj r (.loop rec')).putObj D (.deferred none)) := by
    refine at1.turn (Upd.head _) ⟨rfl, rfl, rfl, by simp, fun k _ hk => World.putObj_heap_other (fun e => hk (by rw [e]; rfl))⟩ ⟨(at1.own _ (List.mem_cons_self ..)).1, ?_⟩ (fun k hk => .inl hk)
    exact World.putObj_heap_same (Array.getElem?_eq_some_iff.1 hD).1
  have at3 := at2.drop_res ((List.Sublist.cons _ (List.Sublist.cons _ (List.Sublist.refl hp))))
  obtain ⟨v, h1, h2⟩ := k _ ⟨at3.below, at3.base, at3.own, at3.apart⟩
  refine ⟨by simp, .inl ⟨D, _, rfl, run_takeDeferred hD, by simp, .inr ⟨fun hd => by simp [Fence.wide] at hd, _, _, 74, _, rfl, caught_enters b _, fun _ _ => trivial, (caught_retIn _ _).mono ?_⟩⟩⟩
  rintro e u w' ⟨rfl, rfl, rfl⟩
  exact ⟨v, h1, h2⟩
end
end Go.Proofs.YtofkhehcnfiopaaDoor.N
namespace Go.Proofs.YtofkhehcnfiopaaDoor.N
open Go Go.RowKit Go.Proofs
theorem F.ent108 : Enters Tryd.prog 108 := enters_of Tryd.func108 rfl (by kernel_rfl)
theorem F.ent109 : Enters Tryd.prog 109 := enters_of Tryd.func109 rfl (by kernel_rfl)
theorem F.ent125 : Enters Tryd.prog 125 := enters_of Tryd.func125 rfl (by kernel_rfl)
theorem F.one116 : One Tryd.prog 116 := ⟨by unfold aggB; rw [Tryd.underlying116], by rw [Tryd.underlying116]; simp⟩
theorem F.ti116 : TI Tryd.prog 116 (.int .u64 0) 1 8 := TI.of (by kernel_rfl)
theorem Fewest_ok (A : Option Addr) (c : Nat) (ags : List Ag) (hok : Oks ags) (p : Nat) (hp : p < 64) (w : World) (hA : RdL Ag.cells 5 w A ags) : Calls Tryd.prog 67 #[.slice A ags.length c, .int .i64 (p : Int)] w fun e w' => ∃ (W : List Nat) (A' : Option Addr) (c' : Nat), FewS ags.length (asAll ags p) W ∧ SetOk ags.length W ∧ e = .returned (.tuple #[.slice A' W.length c', .int .i64 0]) ∧ Grew w w' [.row 3 1 A' W.length c' (ints W)] := by
  have hua : usedAll ags.length < 256 := by have := usedAll_lt hok.1; omega
  refine enter_marks (N := 50) [(0, .slice A ags.length c), (1, .int .i64 (p : Int))] Tryd.func67 rfl Tryd.ntmps67 rfl rfl ?_
  refine cod_seq ?_
  refine cod_region ?_
  refine lst_alloc rfl F.ti25 ?_
  intro b4
  refine lst_alloc rfl F.ti35 ?_
  intro b5
  refine lst_nil ?_
  refine ex_then ?_
  refine cod_seq ?_
  refine cod_region ?_
  refine lst_defer (first := []) (cap := []) (vs := [_]) rfl rfl ?_
  refine lst_nil ?_
  refine ex_then ?_
  refine cod_seq ?_
  refine cod_region ?_
  refine lst_move rfl rfl ?_
  refine lst_fn (X := Option Addr × Nat) (vs := [_]) (p := fun _ => True) (val := fun x => .agg [.slice x.1 ags.length x.2, .int .u8 (usedAll ags.length : Nat)].toArray) (rs := fun x => [.row 89 5 x.1 ags.length x.2 (ags.flatMap Ag.cells)]) rfl rfl F.ent75 (fun a w ha => (begin_ok A c ags hok w (hA.later ha.below)).mono (fun e w' h => by obtain ⟨A', c', h1, h2⟩ := h; exact ⟨(A', c'), trivial, h1, h2⟩)) ?_
  rintro ⟨aA, cg⟩ -
  dsimp only [List.cons_append, List.nil_append]
  refine lst_alloc rfl F.ti75 ?_
  intro b6
  refine lst_store rfl rfl F.ti75 rfl ?_
  refine lst_nil ?_
  refine ex_then ?_
  refine cod_seq ?_
  refine cod_region ?_
  refine lst_move rfl rfl ?_
  refine lst_fn0 (vs := [_]) rfl rfl F.ent76 (fun a w ha => melt_ok p hp w) ?_
  refine lst_alloc rfl F.ti77 ?_
  intro b7
  refine lst_store rfl rfl F.ti77 rfl ?_
  refine lst_nil ?_
  refine ex_then ?_
  refine cod_seq ?_
  refine cod_region ?_
  refine lst_loadN rfl rfl F.agg75 F.ti75 ?_
  refine lst_load rfl rfl F.one77 ?_
  refine lst_call (X := Nat) (first := []) (cap := []) (vs := [_, _]) (p := fun n => SetN n (Clr ags (usedAll ags.length) p)) (val := fun n => .int .u64 (n : Int)) (rs := fun _ => .blk b7 (.cells [.int .u8 (p : Int)].toArray 77 (0, 0)) :: .blk b6 (.cells [.slice aA ags.length cg, .int .u8 (usedAll ags.length : Nat)].toArray 75 (0, 0)) :: .row 89 5 aA ags.length cg (ags.flatMap Ag.cells) :: .blk b5 (.cells [.int .i64 0].toArray 35 (0, 0)) :: [.blk b4 (.cells [.slice none 0 0].toArray 25 (0, 0))]) rfl rfl rfl F.ent100 (fun a w ha => (hopeful_c rfl hok hua hp (by simp) ha).mono (fun e w' h => by obtain ⟨n, h1, h2, h3⟩ := h; exact ⟨n, h1, h2, h3⟩)) ?_
  rintro due hdue
  dsimp only
  refine lst_alloc rfl F.ti116 ?_
  intro b8
  refine lst_store rfl rfl F.ti116 rfl ?_
  refine lst_nil ?_
  refine ex_then ?_
  refine cod_seq ?_
  refine cod_seq ?_
  refine cod_region ?_
  refine lst_field_z rfl rfl F.fi75_0 F.ti72 ?_
  refine lst_load rfl rfl F.one72 ?_
  refine lst_len rfl rfl Tryd.underlying72 ?_
  refine lst_fn (X := Nat) (vs := [_]) (p := fun _ => True) (val := fun b => .func (.func 125) ([] : List Value).toArray [.pointer (some ⟨b, 0, none⟩)].toArray) (rs := fun b => [.blk b (.cells [.int .i64 (ags.length : Int)].toArray 3 (0, 0))]) rfl rfl F.ent108 (fun a w ha => (sets_c ags.length w).mono (fun e w' h => by obtain ⟨b, h1, h2⟩ := h; exact ⟨b, trivial, h1, h2⟩)) ?_
  rintro nb -
  dsimp only [List.cons_append, List.nil_append]
  refine lst_nil ?_
  refine ex_then ?_
  refine cod_block ?_
  refine cod_range2 (lb := [.pointer (some ⟨nb, 0, none⟩)]) rfl F.ent125 (fun a0 w0 ha0 r D rec W1 hst hpe htm hps has hbo hr1 hD1 hR => ?_)
  have hn4 := hok.1
  refine (it_c ags.length r nb (asAll ags p) (fun v w' => ∃ A' c', Mem ⟨Tryd.prog, w.heap.size, w, 50, [caughtD b5]⟩ (.blk r (.loop { rec with state := .done, pending := some .ret }) :: .blk D (.deferred (some [])) :: .blk b4 (.cells [.slice A' v.length c'].toArray 25 (0, 0)) :: .blk b5 (.cells [.int .i64 0].toArray 35 (0, 0)) :: [.row 3 1 A' v.length c' (ints v)]) w') hn4 ?_ W1 ?_ ?_).mono ?_
  · rintro v W W' ⟨A', c', hm⟩ hb
    exact ⟨A', c', hm.later hb⟩
  · exact cell_of_blk (hR.mem_blk (InB.mem (b := nb))) rfl
  · intro v W hv hbel hsz
    have hat := hR.later hbel
    have hm16 : maskL v < 16 := hv.mask hn4
    refine yield_body (rec := rec) (N := 50) (vs := [.int .u8 (maskL v : Nat)]) (frY := (23, .int .u8 (maskL v : Nat)) :: _) (frB := [(9, .int .u8 (maskL v : Nat)), (4, .pointer (some ⟨b4, 0, none⟩)), (5, .pointer (some ⟨b5, 0, none⟩)), (6, .pointer (some ⟨b6, 0, none⟩)), (7, .pointer (some ⟨b7, 0, none⟩)), (8, .pointer (some ⟨b8, 0, none⟩))]) ((hat.own _ (List.mem_cons_self ..)).2) hst (by rw [hps]; rfl) (by rw [hps]; exact slots_round hat htm rfl rfl W) ?_ ?_
    · intro K hK
      rw [has]
      refine codR_region (fun _ _ h => h) (by rfl) ?_
      refine lst_assign rfl rfl ?_
      refine lst_nil ?_
      exact fun a w ha => hK a w (ha.drop_slots (by repeat (first | exact Sub.nil _ | refine Sub.cons rfl ?_)))
    · intro w1 hw1 hs1
      obtain ⟨rb, hrb⟩ : ∃ rb : Loop, rb = { rec with state := .busy } := ⟨_, rfl⟩
      rw [← hrb]
      refine codR_of_eq hbo ?_
      have hat2 := (hat.later hw1).putRec (rec' := rb)
      have hat3 := hat2.noDefers.withUp (H := W1.heap.size) hR.base (fun k hk => (hR.ids_lt k hk).2)
      have hszW : (w1.putObj r (.loop rb)).heap.size = w1.heap.size := by simp
      have h6 := hat2.mem_blk (InB.mem (b := b6))
      have h7 := cell_of_blk (o := 0) (hat2.mem_blk (InB.mem (b := b7))) rfl
      have h8 := cell_of_blk (o := 0) (hat2.mem_blk (InB.mem (b := b8))) rfl
      have hRd : RdL Ag.cells 5 (w1.putObj r (.loop rb)) aA ags := row_reads hat2 (cells := Ag.cells) (e := 89) (c := cg) (n := ags.length) (fun _ => rfl) (InR.mem (A := aA)) rfl
      have hA0 : 0 < ags.length → ∃ g, aA = some ⟨g, 0, none⟩ := fun h => row_some (hat2.own _ (InR.mem (A := aA))) h
      refine codR_block ?_
      refine codR_seq ?_
      refine codR_region (fun _ _ h => h) (by rfl) ?_
      refine lst_loadN_at (l := [.slice aA ags.length cg, .int .u8 (usedAll ags.length : Nat)]) rfl rfl F.agg75 F.ti75 rfl (fun a w' ha j u hu => ha.old (by rw [Nat.zero_add]; exact cell_of_blk h6 hu) (by have := cell_lt (cell_of_blk h6 (o := 0) rfl); rw [hszW] at this; exact this)) ?_
      refine lst_alloc rfl F.ti75 ?_
      intro b10
      refine lst_store rfl rfl F.ti75 rfl ?_
      refine lst_nil ?_
      refine exR_then ?_
      refine codR_seq ?_
      refine codR_region (fun _ _ h => h) (by rfl) ?_
      refine lst_move rfl rfl ?_
      refine lst_field_z rfl rfl F.fi75_1 F.ti73 ?_
      refine lst_store rfl rfl F.ti73 rfl ?_
      refine lst_nil ?_
      refine exR_then ?_
      refine codR_seq ?_
      refine codR_seq ?_
      refine codR_begin [] F.follows 5 rfl [false, false, false, false, false] rfl (by rfl) ?_
      refine any_take (listed' := [true, false, false, false, false].toArray) 0 rfl rfl rfl (by kernel_rfl) (by kernel_rfl) (by kernel_rfl) (by repeat (first | exact List.Sublist.refl _ | exact List.nil_sublist _ | refine List.Sublist.cons_cons _ ?_ | refine List.Sublist.cons _ ?_)) (yld_loadN rfl F.agg75 F.ti75) rfl ?_
      refine any_take (listed' := [true, true, false, false, false].toArray) 1 rfl rfl rfl (by kernel_rfl) (by kernel_rfl) (by kernel_rfl) (by repeat (first | exact List.Sublist.refl _ | exact List.nil_sublist _ | refine List.Sublist.cons_cons _ ?_ | refine List.Sublist.cons _ ?_)) (yld_load_at (v := .int .u8 (p : Int)) rfl F.one77 (fun a w' ha => ha.old h7 (by have := cell_lt h7; rw [hszW] at this; exact this))) rfl ?_
      refine any_take (listed' := [true, true, false, true, false].toArray) 3 rfl rfl rfl (by kernel_rfl) (by kernel_rfl) (by kernel_rfl) (by repeat (first | exact List.Sublist.refl _ | exact List.nil_sublist _ | refine List.Sublist.cons_cons _ ?_ | refine List.Sublist.cons _ ?_)) (yld_load_at (v := .int .u64 (due : Int)) rfl F.one116 (fun a w' ha => ha.old h8 (by have := cell_lt h8; rw [hszW] at this; exact this))) rfl ?_
      refine any_one (listed' := [true, true, true, true, false].toArray) 2 (by kernel_rfl) rfl rfl ?_
      refine lst_call (X := Nat) (first := []) (cap := []) (vs := [_, _]) (p := fun n => SetN n (Clr ags (maskL v) p)) (val := fun n => .int .u64 (n : Int)) (rs := fun _ => [.blk b10 (.cells [.slice aA ags.length cg, .int .u8 (maskL v : Nat)].toArray 75 (0, 0))]) rfl rfl rfl F.ent100 (fun a w ha => (hopeful2_c rfl hok (show maskL v < 256 by omega) hp (by exact hszW) (by exact hRd) hA0 ha).mono (fun e w' h => by obtain ⟨n, h1, h2, h3⟩ := h; exact ⟨n, h1, h2, h3⟩)) ?_
      rintro n hset
      dsimp only
      refine lst_nil ?_
      refine any_next (by repeat (first | exact List.Sublist.refl _ | exact List.nil_sublist _ | refine List.Sublist.cons_cons _ ?_ | refine List.Sublist.cons _ ?_)) ?_
      refine any_take (listed' := [true, true, true, true, true].toArray) 4 rfl rfl rfl (by kernel_rfl) (by kernel_rfl) (by kernel_rfl) (by repeat (first | exact List.Sublist.refl _ | exact List.nil_sublist _ | refine List.Sublist.cons_cons _ ?_ | refine List.Sublist.cons _ ?_)) (yld_int rfl rfl bin_neq) rfl ?_
      refine any_done rfl (by kernel_rfl) ?_
      refine exR_then ?_
      refine codR_cond_dec rfl (fun hc0 => ?_) (fun hc0 => ?_)
      · skip
        have hnG : ¬ asAll ags p v := fun h => hc0 ((sets_eq hv.2 hset hdue).2 h)
        refine codR_exit ?_
        refine ex_then_exit ?_
        refine ex_block_exit ?_
        subst hrb
        exact round_goes (W := W) ((hat.own _ (List.mem_cons_self ..)).2) hst hpe hw1 hs1 (fun w' hg => .inl ⟨rfl, hg, hnG⟩)
      · skip
        have hG : asAll ags p v := (sets_eq hv.2 hset hdue).1 (by simpa using hc0)
        refine codR_widen hat3 rfl rfl hszW.symm rfl rfl ?_
        dsimp only [List.cons_append, List.nil_append]
        refine codR_skip ?_
        refine exR_then ?_
        refine codR_seq ?_
        refine codR_region (fun _ _ h => h) (by rfl) ?_
        refine lst_move rfl rfl ?_
        refine lst_fn (X := Nat) (vs := [_]) (p := fun n => n ≤ 4) (val := fun n => .int .i64 (n : Int)) (rs := fun _ => []) rfl rfl F.ent109 (fun a w ha => count_c (maskL v) hm16 w) ?_
        intro cn hcn
        dsimp only [List.nil_append]
        refine lst_make_cap rfl rfl rfl Tryd.underlying25 F.ti3 (by omega) ?_
        intro b34
        refine lst_store rfl rfl F.ti25 rfl ?_
        refine lst_nil ?_
        refine exR_then ?_
        refine codR_seq ?_
        refine codR_seq ?_
        refine codR_region (fun _ _ h => h) (by rfl) ?_
        refine lst_field_z rfl rfl F.fi75_0 F.ti72 ?_
        refine lst_load rfl rfl F.one72 ?_
        refine lst_len rfl rfl Tryd.underlying72 ?_
        refine lst_move rfl rfl ?_
        refine lst_nil ?_
        refine exR_then ?_
        refine codR_block ?_
        refine codR_loop' (G := Nat × Option Addr × Nat) (fun g => g.1 ≤ ags.length) (fun g => ags.length - g.1) (fun g => [(4, .pointer (some ⟨b4, 0, none⟩)), (5, .pointer (some ⟨b5, 0, none⟩)), (9, .int .u8 (maskL v : Nat)), (37, .int .i64 (ags.length : Int)), (38, .int .i64 (g.1 : Int))]) (fun g => .blk b4 (.cells [.slice g.2.1 (outL v g.1).length g.2.2].toArray 25 (0, 0)) :: .row 3 1 g.2.1 (outL v g.1).length g.2.2 (ints (outL v g.1)) :: .blk r (.loop rb) :: .blk D (.deferred (some [])) :: .blk b5 (.cells [.int .i64 0].toArray 35 (0, 0)) :: upRes W1.heap.size (w1.putObj r (.loop rb))) (0, some ⟨b34, 0, none⟩, cn) (Nat.zero_le _) (by repeat (first | exact Sub.nil _ | refine Sub.cons rfl ?_)) (by repeat (first | exact Pck.nil _ | exact Pck.refl _ | (apply Pck.cons; focus ((repeat (first | exact Rem.here _ | apply Rem.there)); done)) | refine Pck.skip _ ?_)) ?_
        rintro ⟨k, A1, c1⟩ hk
        dsimp only at hk ⊢
        refine codR_seq ?_
        refine codR_region (fun _ _ h => h) (by rfl) ?_
        refine lst_int rfl rfl rfl bin_lss ?_
        refine lst_nil ?_
        refine exR_then ?_
        refine codR_seq ?_
        refine codR_cond_dec rfl (fun hc1 => ?_) (fun hc1 => ?_)
        · skip
          have hk' : k < ags.length := by omega
          refine codR_skip ?_
          refine exR_then ?_
          refine codR_seq ?_
          refine codR_block ?_
          refine codR_seq ?_
          refine codR_region (fun _ _ h => h) (by rfl) ?_
          refine lst_move rfl rfl ?_
          refine lst_assign rfl rfl ?_
          refine lst_nil ?_
          refine exR_then ?_
          refine codR_seq ?_
          refine codR_region (fun _ _ h => h) (by rfl) ?_
          refine lst_move rfl rfl ?_
          refine lst_move rfl rfl ?_
          refine lst_fn0 (vs := [_, _]) rfl rfl F.ent110 (fun a w ha => set_has_c (maskL v) k (show maskL v < 256 by omega) w) ?_
          refine lst_nil ?_
          refine exR_then ?_
          refine codR_cond_bool rfl (fun hc2 => ?_) (fun hc2 => ?_)
          · skip
            refine codR_region (fun _ _ h => h) (by rfl) ?_
            refine lst_load rfl rfl F.one25 ?_
            refine lst_move rfl rfl ?_
            refine lst_lit (vs := [(0, _)]) rfl rfl Tryd.underlying25 F.ti3 rfl rfl rfl ?_
            intro b46
            refine lst_append rfl rfl rfl Tryd.underlying25 F.ti3 rfl rfl rfl (by have := outL_len v k; unfold maxLen; omega) (by have := outL_len v k; omega) ?_
            intro A2 c2
            refine lst_store rfl rfl F.ti25 rfl ?_
            refine lst_nil ?_
            refine ex_block_normal ?_
            refine exR_then ?_
            refine codR_region (fun _ _ h => h) (by rfl) ?_
            refine lst_int rfl rfl rfl (fun w => bin_add w (wrap_i64' _ (by omega) (by omega))) ?_
            refine lst_move rfl rfl ?_
            refine lst_nil ?_
            have hkv : k ∈ v := by rw [maskL_bit] at hc2; exact of_decide_eq_true hc2
            have e := outL_yes hkv
            refine ex_round' (k + 1, A2, c2) (by (try dsimp only); omega) (by (try dsimp only); omega) (by repeat (first | exact Sub.nil _ | refine Sub.cons rfl ?_)) (by (try dsimp only); rw [e, ints_snoc, List.length_append, List.length_singleton]; repeat (first | exact Pck.nil _ | exact Pck.refl _ | (apply Pck.cons; focus ((repeat (first | exact Rem.here _ | apply Rem.there)); done)) | refine Pck.skip _ ?_))
          · skip
            refine codR_skip ?_
            refine ex_block_normal ?_
            refine exR_then ?_
            refine codR_region (fun _ _ h => h) (by rfl) ?_
            refine lst_int rfl rfl rfl (fun w => bin_add w (wrap_i64' _ (by omega) (by omega))) ?_
            refine lst_move rfl rfl ?_
            refine lst_nil ?_
            have hkv : k ∉ v := by rw [maskL_bit] at hc2; exact of_decide_eq_false hc2
            have e := outL_no hkv
            refine ex_round' (k + 1, A1, c1) (by (try dsimp only); omega) (by (try dsimp only); omega) (by repeat (first | exact Sub.nil _ | refine Sub.cons rfl ?_)) (by (try dsimp only); rw [e]; repeat (first | exact Pck.nil _ | exact Pck.refl _ | (apply Pck.cons; focus ((repeat (first | exact Rem.here _ | apply Rem.there)); done)) | refine Pck.skip _ ?_))
        · skip
          obtain rfl : k = ags.length := by omega
          have hov : outL v ags.length = v := outL_all hv.1 hv.2
          rw [hov]
          refine codR_exit ?_
          refine ex_then_exit ?_
          refine ex_then_exit ?_
          refine ex_block_exit ?_
          refine exR_then ?_
          refine codR_seq ?_
          refine codR_region (fun _ _ h => h) (by rfl) ?_
          refine lst_load rfl rfl F.one25 ?_
          refine lst_store rfl rfl F.ti25 rfl ?_
          refine lst_store rfl rfl F.ti35 rfl ?_
          refine lst_nil ?_
          refine exR_then ?_
          refine codR_ret ?_
          refine ex_block_ret ?_
          subst hrb
          refine round_ret (rec := rec) (UpB.upd (b := r)) (fun a w' ha => .inr ⟨rfl, hG, ⟨A1, c1, (At.pck ha (by repeat (first | exact Pck.nil _ | exact Pck.refl _ | (apply Pck.cons; focus ((repeat (first | exact Rem.here _ | apply Rem.there)); done)) | refine Pck.skip _ ?_))).mem⟩, KeepUp.sub (H := W1.heap.size) (W := W) (W2 := w1.putObj r (.loop { rec with state := .busy })) (by simp only [World.putObj_size]; exact hs1) (fun b hb1 hb2 => (World.putObj_heap_other (by omega)).trans (hw1.block b hb2)) (keepUp_of ha (fun r hr => by simp [hr]))⟩)
  · rintro e w3 ⟨hv, h⟩
    refine ⟨hv, ?_⟩
    rcases h with ⟨hno, _⟩ | ⟨v, hfew, hvok, A', c', hm⟩
    · exact absurd asAll_all (hno ags.length (Nat.le_refl _) (List.range' 0 ags.length) (by rw [chs_all _ _ 0 (by omega)]; exact List.mem_singleton_self _))
    · refine ⟨.done, some .ret, by simp, (hm.2.2.1 _ (List.mem_cons_self ..)).2, .inr ⟨rfl, ?_⟩⟩
      show LeavesInM _ _ _ _ _ _ (_ :: a0.defers) _ _
      rw [ha0.defs]
      refine marks_ret hm _ (fun w' hm' => ⟨_, res_cc (a := a0) (C := ⟨Tryd.prog, w.heap.size, w, 50, _⟩) (fn := Tryd.f67) rfl rfl rfl F.one25 F.one35 ⟨ha0.size, ha0.defs, ha0.slots, hm'.1, hm'.2.1, hm'.2.2.1, hm'.2.2.2⟩, v, A', c', hfew, hvok, rfl, ?_⟩)
      exact ⟨hm'.1, fun r hr => hm'.2.2.1 r (by simp at hr; simp [hr]), (List.Sublist.filterMap _ (List.Sublist.cons _ (List.Sublist.cons _ (List.Sublist.refl _)))).nodup hm'.2.2.2⟩

end Go.Proofs.YtofkhehcnfiopaaDoor.N
namespace Go.Proofs.YtofkhehcnfiopaaDoor.N
open Go Go.RowKit Go.Proofs

theorem Only_c (A B : Option Addr) (c cb : Nat) (ags : List Ag) (l : List Nat) (hl4 : l.length ≤ 4) (hlt : ∀ i ∈ l, i < ags.length) (w : World) (hA : RdL Ag.cells 5 w A ags) (hB : RdL ncell 1 w B l) : Calls Tryd.prog 70 #[.slice A ags.length c, .slice B l.length cb] w fun e w' => ∃ A' c', e = .returned (.slice A' (onlyL ags l).length c') ∧ Grew w w' [.row 24 5 A' (onlyL ags l).length c' ((onlyL ags l).flatMap Ag.cells)] := by
  refine enter (N := 24) [(0, .slice A ags.length c), (1, .slice B l.length cb)] Tryd.func70 rfl Tryd.ntmps70 rfl rfl ?_
  refine cod_seq ?_
  refine cod_region ?_
  refine lst_assign rfl rfl ?_
  refine lst_nil ?_
  refine ex_then ?_
  refine cod_seq ?_
  refine cod_region ?_
  refine lst_assign rfl rfl ?_
  refine lst_nil ?_
  refine ex_then ?_
  refine cod_seq ?_
  refine cod_seq ?_
  refine cod_region ?_
  refine lst_assign rfl rfl ?_
  refine lst_nil ?_
  refine ex_then ?_
  refine cod_block ?_
  refine cod_nil 24 5 ?_
  refine cod_loop' (G := Nat × Option Addr × Nat) (fun g => g.1 ≤ l.length) (fun g => l.length - g.1) (fun g => [(0, .slice A ags.length c), (1, .slice B l.length cb), (5, .slice g.2.1 (onlyL ags (l.take g.1)).length g.2.2), (6, .int .i64 (g.1 : Int))]) (fun g => [.row 24 5 g.2.1 (onlyL ags (l.take g.1)).length g.2.2 ((onlyL ags (l.take g.1)).flatMap Ag.cells)]) (0, none, 0) (Nat.zero_le _) (by repeat (first | exact Sub.nil _ | refine Sub.cons rfl ?_)) (by repeat (first | exact Pck.nil _ | exact Pck.refl _ | (apply Pck.cons; focus ((repeat (first | exact Rem.here _ | apply Rem.there)); done)) | refine Pck.skip _ ?_)) ?_
  rintro ⟨k, A1, c1⟩ hk
  dsimp only at hk ⊢
  refine cod_seq ?_
  refine cod_seq ?_
  refine cod_region ?_
  refine lst_move rfl rfl ?_
  refine lst_move rfl rfl ?_
  refine lst_len rfl rfl Tryd.underlying25 ?_
  refine lst_int rfl rfl rfl bin_lss ?_
  refine lst_nil ?_
  refine ex_then ?_
  refine cod_cond_dec rfl (fun hc0 => ?_) (fun hc0 => ?_)
  · skip
    have hk' : k < l.length := by omega
    obtain ⟨m, hm⟩ : ∃ m, l[k]? = some m := ⟨_, List.getElem?_eq_getElem hk'⟩
    have hml : m < ags.length := hlt m (List.mem_of_getElem? hm)
    obtain ⟨b, o, rfl, hb, hcell⟩ := hB (by omega)
    obtain ⟨b', o', rfl, hb', hcell'⟩ := hA (by omega)
    obtain ⟨x, hx⟩ : ∃ x, ags[m]? = some x := ⟨_, List.getElem?_eq_getElem hml⟩
    have hxd : ags.getD m default = x := by rw [List.getD_eq_getElem?_getD, hx]; rfl
    have e : onlyL ags (l.take (k + 1)) = onlyL ags (l.take k) ++ [x] := by unfold onlyL; rw [List.take_add_one, hm, List.map_append]; simp [hxd, hx]
    have hol : (onlyL ags (l.take k)).length = k := by rw [onlyL_len, List.length_take]; omega
    refine cod_skip ?_
    refine ex_then ?_
    refine cod_seq ?_
    refine cod_block ?_
    refine cod_region ?_
    refine lst_move rfl rfl ?_
    refine lst_move rfl rfl ?_
    refine lst_move rfl rfl ?_
    refine lst_move rfl rfl ?_
    refine lst_index (j := k) rfl rfl rfl Tryd.underlying25 F.ti3 rfl hk' ?_
    refine lst_load_at (v := .int .i64 (m : Int)) rfl rfl F.one3 (fun a w ha => ha.old (hcell k m hm 0 _ rfl) hb) ?_
    refine lst_index (j := m) rfl rfl rfl Tryd.underlying22 F.ti24 rfl hml ?_
    refine lst_loadN_at (l := [.int .i64 (x.needs : Int), .int .i64 (x.no : Int), .int .i64 (x.takes : Int), .int .i64 (x.leaves : Int), .int .i64 (x.cost : Int)]) rfl rfl F.agg24 F.ti24 rfl (fun a w ha j u hu => ha.old (hcell' m x hx j u hu) hb') ?_
    refine lst_litN (vs := [(0, _)]) [_, _, _, _, _] rfl rfl Tryd.underlying22 F.ti24 rfl rfl rfl ⟨rfl, [_, _, _, _, _], [], rfl, rfl, rfl, rfl⟩ ?_
    intro b21
    refine lst_append rfl rfl rfl Tryd.underlying22 F.ti24 rfl rfl rfl (by unfold maxLen; omega) (by omega) ?_
    intro A2 c2
    refine lst_assign rfl rfl ?_
    refine lst_nil ?_
    refine ex_block_normal ?_
    refine ex_then ?_
    refine cod_region ?_
    refine lst_move rfl rfl ?_
    refine lst_int rfl rfl rfl (fun w => bin_add w (wrap_i64' _ (by omega) (by omega))) ?_
    refine lst_assign rfl rfl ?_
    refine lst_nil ?_
    refine ex_round' (k + 1, A2, c2) (by (try dsimp only); omega) (by (try dsimp only); omega) (by (try dsimp only); rw [e, List.length_append, List.length_singleton]; repeat (first | exact Sub.nil _ | refine Sub.cons rfl ?_)) (by (try dsimp only); rw [e, List.length_append, List.length_singleton, List.flatMap_append, List.flatMap_singleton]; repeat (first | exact Pck.nil _ | exact Pck.refl _ | (apply Pck.cons; focus ((repeat (first | exact Rem.here _ | apply Rem.there)); done)) | refine Pck.skip _ ?_))
  · skip
    obtain rfl : k = l.length := by omega
    rw [List.take_length]
    refine cod_exit ?_
    refine ex_then_exit ?_
    refine ex_then_exit ?_
    refine ex_block_exit ?_
    refine ex_then ?_
    refine cod_seq ?_
    refine cod_region ?_
    refine lst_move rfl rfl ?_
    refine lst_assign rfl rfl ?_
    refine lst_nil ?_
    refine ex_then ?_
    refine cod_ret ?_
    exact ex_ret rfl (fun a w ha => res_one rfl rfl ha) (fun a w ha => ⟨A1, c1, rfl, ha.grown (List.Sublist.refl _)⟩)

end Go.Proofs.YtofkhehcnfiopaaDoor.N
namespace Go.Proofs.YtofkhehcnfiopaaDoor.N
open Go Go.RowKit Go.Proofs
theorem chs_top (n : Nat) : List.range' 0 n ∈ chsL n n 0 := by rw [chs_all n n 0 (by omega)]; exact List.mem_singleton_self _
theorem SeenC.top {ags : List Ag} {p k : Nat} (h : SeenC ags.length (asAll ags p) (k + 1) 0) : k + 1 ≤ ags.length := by
  rcases Nat.lt_or_ge ags.length (k + 1) with h1 | h1
  · exact absurd asAll_all (h.less ags.length _ h1 (chs_top _))
  · exact h1
end Go.Proofs.YtofkhehcnfiopaaDoor.N
namespace Go.Proofs.YtofkhehcnfiopaaDoor.N
open Go Go.RowKit Go.Proofs
theorem F.ent70 : Enters Tryd.prog 70 := enters_of Tryd.func70 rfl (by kernel_rfl)
end Go.Proofs.YtofkhehcnfiopaaDoor.N
namespace Go.Proofs.YtofkhehcnfiopaaDoor.N
open Go Go.RowKit Go.Proofs
theorem SetOk.len {n : Nat} {v : List Nat} (h : SetOk n v) : v.length ≤ n := by
  have h1 := outL_all h.1 h.2
  rw [← h1]
  exact outL_len v n
/-- What Fewest says. -/
def FewSay (l : List RA) (p : Int) (W : List Nat) (E : Nat) : Prop :=
  (askedR l 0 p = 0 ∧ E = 0 ∧ FewS l.length (asAll (agsOf l) p.toNat) W ∧ W.length ≤ 4) ∨ (askedR l 0 p ≠ 0 ∧ E = askedR l 0 p ∧ W = [])
theorem FewSay.unique {l : List RA} {p : Int} {W W' : List Nat} {E E' : Nat} (h : FewSay l p W E) (h' : FewSay l p W' E') : W = W' ∧ E = E' := by
  rcases h with ⟨h0, rfl, h1, _⟩ | ⟨h0, rfl, rfl⟩
  · rcases h' with ⟨_, rfl, h2, _⟩ | ⟨h2, _⟩
    · exact ⟨h1.unique h2, rfl⟩
    · exact absurd h0 h2
  · rcases h' with ⟨h2, _⟩ | ⟨_, rfl, rfl⟩
    · exact absurd h2 h0
    · exact ⟨rfl, rfl⟩
theorem FewSay.le {l : List RA} {p : Int} {W : List Nat} {E : Nat} (h : FewSay l p W E) : W.length ≤ 4 := by
  rcases h with ⟨_, _, _, h⟩ | ⟨_, _, rfl⟩
  · exact h
  · exact Nat.zero_le _
def FewC (l : List RA) (p : Int) (w : World) (e : Ending) (w' : World) : Prop := ∃ (W : List Nat) (E : Nat) (A' : Option Addr) (c' : Nat), FewSay l p W E ∧ e = .returned (.tuple #[.slice A' W.length c', .int .i64 (E : Int)]) ∧ Grew w w' [.row 3 1 A' W.length c' (ints W)]
theorem FewC.nil {l : List RA} {p : Int} {w w' : World} {E : Nat} {e : Ending} (h0 : askedR l 0 p ≠ 0) (hE : E = askedR l 0 p) (h : e = .returned (.tuple #[.slice none 0 0, .int .i64 (E : Int)]) ∧ Grew w w' []) : FewC l p w e w' :=
  ⟨[], E, none, 0, .inr ⟨h0, hE, rfl⟩, h.1, grew_nil h.2⟩
end Go.Proofs.YtofkhehcnfiopaaDoor.N
namespace Go.Proofs.YtofkhehcnfiopaaDoor.N
open Go Go.RowKit Go.Proofs
theorem F.ent67 : Enters Tryd.prog 67 := enters_of Tryd.func67 rfl (by kernel_rfl)
end Go.Proofs.YtofkhehcnfiopaaDoor.N
namespace Go.Proofs.YtofkhehcnfiopaaDoor.N
open Go Go.RowKit Go.Proofs
/-! All ascending lists of k numbers under n, as Choose grows them: number after number. -/
def fstC (i : Nat) (x : List Nat) : Nat := if i = 0 then 0 else x.getD (i - 1) 0 + 1
def extC (n k i : Nat) (x : List Nat) : List (List Nat) := (List.range' (fstC i x) (n - k + i + 1 - fstC i x)).map fun y => x ++ [y]
def preC (n k : Nat) : Nat → List (List Nat)
  | 0 => [[]]
  | i + 1 => (preC n k i).flatMap (extC n k i)
theorem preC_succ (n k i : Nat) : preC n k (i + 1) = (preC n k i).flatMap (extC n k i) := rfl
def okX (n k i : Nat) (x : List Nat) : Bool := decide (x.length = i) && (decide (k ≤ i) || decide (fstC i x ≤ n - k + i)) && x.all fun y => decide (y < n)
def okC (n k : Nat) : Bool := decide (n < k) || (decide (preC n k k = chsL n k 0) && (List.range (k + 1)).all fun i => decide ((preC n k i).length ≤ 24) && (preC n k i).all (okX n k i))
theorem okC_all : (List.range 5).all (fun n => (List.range 5).all fun k => okC n k) = true := by decide
theorem okC_at {n k : Nat} (hn : n ≤ 4) (hk : k ≤ n) : preC n k k = chsL n k 0 ∧ ∀ i, i ≤ k → (preC n k i).length ≤ 24 ∧ ∀ x ∈ preC n k i, okX n k i x = true := by
  have h1 := List.all_eq_true.1 okC_all n (List.mem_range.2 (by omega))
  have h2 := List.all_eq_true.1 h1 k (List.mem_range.2 (by omega))
  unfold okC at h2
  rw [Bool.or_eq_true, Bool.and_eq_true] at h2
  rcases h2 with h2 | ⟨h3, h4⟩
  · have := of_decide_eq_true h2; omega
  · refine ⟨of_decide_eq_true h3, fun i hi => ?_⟩
    have h5 := List.all_eq_true.1 h4 i (List.mem_range.2 (by omega))
    rw [Bool.and_eq_true] at h5
    exact ⟨of_decide_eq_true h5.1, fun x hx => List.all_eq_true.1 h5.2 x hx⟩
theorem preC_all {n k : Nat} (hn : n ≤ 4) (hk : k ≤ n) : preC n k k = chsL n k 0 := (okC_at hn hk).1
theorem preC_le {n k i : Nat} (hn : n ≤ 4) (hk : k ≤ n) (hi : i ≤ k) : (preC n k i).length ≤ 24 := ((okC_at hn hk).2 i hi).1
theorem preC_mem {n k i : Nat} (hn : n ≤ 4) (hk : k ≤ n) (hi : i ≤ k) {x : List Nat} (h : x ∈ preC n k i) : x.length = i ∧ (i < k → fstC i x ≤ n - k + i) ∧ ∀ y ∈ x, y < n := by
  have h1 := ((okC_at hn hk).2 i hi).2 x h
  unfold okX at h1
  simp only [Bool.and_eq_true, Bool.or_eq_true, decide_eq_true_eq, List.all_eq_true] at h1
  obtain ⟨⟨h2, h3⟩, h4⟩ := h1
  exact ⟨h2, fun h5 => h3.resolve_left (by omega), h4⟩
theorem castL_inj {l m : List Nat} (h : castL l = castL m) : l = m := List.map_inj_right (fun _ _ h => Int.ofNat.inj h) |>.1 h
/-- The loaves that no way helps: alike just where the agents are as good as all. -/
theorem hope_iff {ags : List Ag} {p : Nat} {l : List Nat} : hopeL (onlyL ags l) p = hopeL ags p ↔ asAll ags p l := by
  constructor
  · intro h m hm
    have h1 : m ∈ hopeL (onlyL ags l) p ↔ m ∈ hopeL ags p := by rw [h]
    unfold hopeL at h1
    rw [fltP_mem, fltP_mem] at h1
    have hr : m ∈ List.range 64 := List.mem_range.2 hm
    exact ⟨fun h2 => Classical.byContradiction fun h3 => (h1.2 ⟨hr, h3⟩).2 h2, fun h2 => Classical.byContradiction fun h3 => (h1.1 ⟨hr, h3⟩).2 h2⟩
  · intro h
    exact fltP_congr fun m hm => not_congr (h m (List.mem_range.1 hm))
end Go.Proofs.YtofkhehcnfiopaaDoor.N
namespace Go.Proofs.YtofkhehcnfiopaaDoor.N
open Go Go.RowKit Go.Proofs

theorem Choose_c (n k : Nat) (hn : n ≤ 4) (hk : k ≤ n) (w : World) : Calls Tryd.prog 69 #[.int .i64 (n : Int), .int .i64 (k : Int)] w fun e w' => ∃ (Ls : List Sl) (A : Option Addr) (c : Nat), Ls.map Sl.l = chsL n k 0 ∧ e = .returned (.slice A Ls.length c) ∧ Grew w w' (.row 25 1 A Ls.length c (Ls.map Sl.val) :: Ls.map Sl.res) := by
  refine enter (N := 57) [(0, .int .i64 (n : Int)), (1, .int .i64 (k : Int))] Tryd.func69 rfl Tryd.ntmps69 rfl rfl ?_
  refine cod_seq ?_
  refine cod_region ?_
  refine lst_assign rfl rfl ?_
  refine lst_nil ?_
  refine ex_then ?_
  refine cod_seq ?_
  refine cod_region ?_
  refine lst_lit (vs := [(0, _)]) rfl rfl Tryd.underlying49 F.ti25 rfl rfl rfl ?_
  intro b11
  refine lst_as_rowN 1 1 rfl (by unfold maxLen; omega) (.head _) ?_
  refine lst_nilrow 3 1 ?_
  refine lst_assign rfl rfl ?_
  refine lst_nil ?_
  refine ex_then ?_
  refine cod_seq ?_
  refine cod_seq ?_
  refine cod_region ?_
  refine lst_assign rfl rfl ?_
  refine lst_nil ?_
  refine ex_then ?_
  refine cod_block ?_
  refine cod_loop' (G := Nat × Option Addr × Nat × List Sl) (fun g => g.1 ≤ k ∧ g.2.2.2.map Sl.l = preC n k g.1) (fun g => k - g.1) (fun g => [(0, .int .i64 (n : Int)), (1, .int .i64 (k : Int)), (5, .slice g.2.1 g.2.2.2.length g.2.2.1), (6, .int .i64 (g.1 : Int))]) (fun g => .row 25 1 g.2.1 g.2.2.2.length g.2.2.1 (g.2.2.2.map Sl.val) :: (g.2.2.2.map Sl.res ++ [])) (0, some ⟨b11, 0, none⟩, 1, [⟨none, 0, []⟩]) ⟨Nat.zero_le _, rfl⟩ (by repeat (first | exact Sub.nil _ | refine Sub.cons rfl ?_)) (by (try simp only [List.map_cons, List.map_nil, List.cons_append, List.nil_append]); repeat (first | exact Pck.nil _ | exact Pck.refl _ | exact Pck.suffix _ _ | (apply Pck.cons; focus ((repeat (first | exact Rem.here _ | apply Rem.there)); done)) | refine Pck.skip _ ?_)) ?_
  rintro ⟨i, A, c, Ls⟩ hI
  dsimp only at hI ⊢
  refine cod_seq ?_
  refine cod_seq ?_
  refine cod_region ?_
  refine lst_move rfl rfl ?_
  refine lst_move rfl rfl ?_
  refine lst_int rfl rfl rfl bin_lss ?_
  refine lst_nil ?_
  refine ex_then ?_
  refine cod_cond_dec rfl (fun hc0 => ?_) (fun hc0 => ?_)
  · skip
    have hik : i < k := by omega
    have hLl : Ls.length = (preC n k i).length := by rw [← hI.2, List.length_map]
    have hL1 := preC_le hn hk (i := i) (by omega)
    refine cod_skip ?_
    refine ex_then ?_
    refine cod_seq ?_
    refine cod_block ?_
    refine cod_seq ?_
    refine cod_region ?_
    refine lst_assign rfl rfl ?_
    refine lst_nil ?_
    refine ex_then ?_
    refine cod_seq ?_
    refine cod_seq ?_
    refine cod_region ?_
    refine lst_assign rfl rfl ?_
    refine lst_nil ?_
    refine ex_then ?_
    refine cod_block ?_
    refine cod_nil 25 1 ?_
    refine cod_loop' (G := Nat × Option Addr × Nat × List Sl) (fun g => g.1 ≤ Ls.length ∧ g.2.2.2.map Sl.l = ((preC n k i).take g.1).flatMap (extC n k i) ∧ g.2.2.2.length ≤ g.1 * 8) (fun g => Ls.length - g.1) (fun g => [(0, .int .i64 (n : Int)), (1, .int .i64 (k : Int)), (5, .slice A Ls.length c), (6, .int .i64 (i : Int)), (7, .slice g.2.1 g.2.2.2.length g.2.2.1), (8, .int .i64 (g.1 : Int))]) (fun g => .row 25 1 g.2.1 g.2.2.2.length g.2.2.1 (g.2.2.2.map Sl.val) :: .row 25 1 A Ls.length c (Ls.map Sl.val) :: (g.2.2.2.map Sl.res ++ (Ls.map Sl.res ++ []))) (0, none, 0, []) ⟨Nat.zero_le _, by simp, by simp⟩ (by repeat (first | exact Sub.nil _ | refine Sub.cons rfl ?_)) (by (try simp only [List.map_cons, List.map_nil, List.cons_append, List.nil_append]); repeat (first | exact Pck.nil _ | exact Pck.refl _ | exact Pck.suffix _ _ | (apply Pck.cons; focus ((repeat (first | exact Rem.here _ | apply Rem.there)); done)) | refine Pck.skip _ ?_)) ?_
    rintro ⟨x, A2, c2, Ms⟩ hM
    dsimp only at hM ⊢
    refine cod_seq ?_
    refine cod_seq ?_
    refine cod_region ?_
    refine lst_move rfl rfl ?_
    refine lst_move rfl rfl ?_
    refine lst_len rfl rfl Tryd.underlying49 ?_
    refine lst_int rfl rfl rfl bin_lss ?_
    refine lst_nil ?_
    refine ex_then ?_
    refine cod_cond_dec rfl (fun hc1 => ?_) (fun hc1 => ?_)
    · skip
      have hx' : x < Ls.length := by omega
      obtain ⟨s, hs⟩ : ∃ s, Ls[x]? = some s := ⟨_, List.getElem?_eq_getElem hx'⟩
      have hsx : (preC n k i)[x]? = some s.l := by rw [← hI.2, List.getElem?_map, hs]; rfl
      have hsm : s ∈ Ls := List.mem_of_getElem? hs
      obtain ⟨hsl, hsf, hsn⟩ := preC_mem hn hk (by omega) (List.mem_of_getElem? hsx)
      have hsf := hsf hik
      have hmr : .row 3 1 s.A s.l.length s.c (ints s.l) ∈ Ls.map Sl.res := List.mem_map.2 ⟨s, hsm, rfl⟩
      refine cod_skip ?_
      refine ex_then ?_
      refine cod_seq ?_
      refine cod_block ?_
      refine cod_seq ?_
      refine cod_region ?_
      refine lst_assign rfl rfl ?_
      refine lst_nil ?_
      refine ex_then ?_
      refine cod_seq ?_
      refine cod_seq ?_
      refine cod_region ?_
      refine lst_move rfl rfl ?_
      refine lst_int rfl rfl rfl bin_gtr ?_
      refine lst_nil ?_
      refine ex_then ?_
      refine cod_cond_dec rfl (fun hc2 => ?_) (fun hc2 => ?_)
      · skip
        have hi0 : 0 < i := by omega
        obtain ⟨m, hm⟩ : ∃ m, s.l[i - 1]? = some m := ⟨_, List.getElem?_eq_getElem (by omega)⟩
        have hmn := hsn m (List.mem_of_getElem? hm)
        have hf : fstC i s.l = m + 1 := by unfold fstC; rw [if_neg (by omega), List.getD_eq_getElem?_getD, hm]; rfl
        let f : Nat := m + 1
        refine cod_region ?_
        refine lst_move rfl rfl ?_
        refine lst_move rfl rfl ?_
        refine lst_index_row (j := x) rfl rfl rfl Tryd.underlying49 F.ti25 rfl hx' rfl rfl ?_
        intro gA hgA
        refine lst_load_row (v := .slice s.A s.l.length s.c) rfl rfl F.one25 hgA (vals_get hs) ?_
        refine lst_move rfl rfl ?_
        refine lst_int rfl rfl rfl (fun w => bin_sub w (show IntKind.i64.wrap ((i : Int) - 1) = ((i - 1 : Nat) : Int) from by rw [wrap_i64' _ (by omega) (by omega)]; omega)) ?_
        refine lst_index_row (j := i - 1) (e' := 3) (size := 1) (len' := s.l.length) (cap' := s.c) (xs := ints s.l) (hr := ⟨by simp [hmr]⟩) rfl rfl rfl Tryd.underlying25 F.ti3 rfl (by omega) rfl rfl ?_
        intro gS hgS
        refine lst_load_row (v := .int .i64 (m : Int)) (e := 3) (size := 1) (n := s.l.length) (c := s.c) (xs := ints s.l) (hr := ⟨by simp [hmr]⟩) rfl rfl F.one3 hgS (by simp [ints, hm]) ?_
        refine lst_int rfl rfl rfl (fun w => bin_add w (show IntKind.i64.wrap ((m : Int) + 1) = ((m + 1 : Nat) : Int) from by rw [wrap_i64' _ (by omega) (by omega)]; omega)) ?_
        refine lst_assign rfl rfl ?_
        refine lst_nil ?_
        refine ex_then ?_
        refine cod_seq ?_
        refine cod_region ?_
        refine lst_move rfl rfl ?_
        refine lst_assign rfl rfl ?_
        refine lst_nil ?_
        refine ex_then ?_
        refine cod_block ?_
        refine cod_loop' (G := Nat × Option Addr × Nat × List Sl) (fun g => fstC i s.l ≤ g.1 ∧ g.1 ≤ n - k + i + 1 ∧ g.2.2.2.map Sl.l = ((preC n k i).take x).flatMap (extC n k i) ++ (List.range' (fstC i s.l) (g.1 - fstC i s.l)).map (fun y => s.l ++ [y]) ∧ g.2.2.2.length + fstC i s.l ≤ x * 8 + g.1) (fun g => n - k + i + 1 - g.1) (fun g => [(0, .int .i64 (n : Int)), (1, .int .i64 (k : Int)), (5, .slice A Ls.length c), (6, .int .i64 (i : Int)), (7, .slice g.2.1 g.2.2.2.length g.2.2.1), (8, .int .i64 (x : Int)), (10, .int .i64 (g.1 : Int))]) (fun g => .row 25 1 g.2.1 g.2.2.2.length g.2.2.1 (g.2.2.2.map Sl.val) :: .row 25 1 A Ls.length c (Ls.map Sl.val) :: (g.2.2.2.map Sl.res ++ (Ls.map Sl.res ++ []))) (f, A2, c2, Ms) ⟨Nat.le_of_eq hf, Nat.le_trans (Nat.le_of_eq hf.symm) (by omega), by rw [hM.2.1]; dsimp only [f]; rw [hf]; simp, by dsimp only [f]; rw [hf]; have := hM.2.2; omega⟩ (by repeat (first | exact Sub.nil _ | refine Sub.cons rfl ?_)) (by repeat (first | exact Pck.nil _ | exact Pck.refl _ | (apply Pck.cons; focus ((repeat (first | exact Rem.here _ | apply Rem.there)); done)) | refine Pck.skip _ ?_)) ?_
        rintro ⟨y, A3, c3, Ns⟩ hN
        dsimp only at hN ⊢
        refine cod_seq ?_
        refine cod_seq ?_
        refine cod_region ?_
        refine lst_move rfl rfl ?_
        refine lst_move rfl rfl ?_
        refine lst_move rfl rfl ?_
        refine lst_int rfl rfl rfl (fun w => bin_sub w (show IntKind.i64.wrap ((n : Int) - (k : Int)) = ((n - k : Nat) : Int) from by rw [wrap_i64' _ (by omega) (by omega)]; omega)) ?_
        refine lst_move rfl rfl ?_
        refine lst_int rfl rfl rfl (fun w => bin_add w (show IntKind.i64.wrap (((n - k : Nat) : Int) + (i : Int)) = ((n - k + i : Nat) : Int) from by rw [wrap_i64' _ (by omega) (by omega)]; omega)) ?_
        refine lst_int rfl rfl rfl bin_leq ?_
        refine lst_nil ?_
        refine ex_then ?_
        refine cod_cond_dec rfl (fun hc3 => ?_) (fun hc3 => ?_)
        · skip
          have hy : y ≤ n - k + i := by omega
          have hNl := hN.2.2.2
          refine cod_skip ?_
          refine ex_then ?_
          refine cod_seq ?_
          refine cod_block ?_
          refine cod_region ?_
          refine lst_move rfl rfl ?_
          refine lst_move rfl rfl ?_
          refine lst_move rfl rfl ?_
          refine lst_index_row (j := x) rfl rfl rfl Tryd.underlying49 F.ti25 rfl hx' rfl rfl ?_
          intro gA hgA
          refine lst_load_row (v := .slice s.A s.l.length s.c) rfl rfl F.one25 hgA (vals_get hs) ?_
          refine lst_fn (X := Option Addr × Nat) (vs := [_]) (p := fun _ => True) (val := fun y => .slice y.1 s.l.length y.2) (rs := fun y => [.row 3 1 y.1 s.l.length y.2 (ints s.l)]) rfl rfl F.ent27 (fun a w ha => by
            exact (dup_c s.A s.c s.l (by omega) w (fun h => by obtain ⟨h1, h2⟩ := row_none ha (e := 3) (size := 1) (n := s.l.length) (c := s.c) (xs := ints s.l) (by simp [hmr]) h; exact ⟨List.eq_nil_of_length_eq_zero h1, h2⟩) (row_reads ha (cells := ncell) (size := 1) (e := 3) (c := s.c) (n := s.l.length) (fun _ => rfl) (by rw [← ints_flat]; simp [hmr]) rfl)).mono (fun e w' h => by obtain ⟨A', c', h1, h2⟩ := h; exact ⟨(A', c'), trivial, h1, h2⟩)) ?_
          rintro ⟨Ac, cc⟩ -
          dsimp only [List.cons_append, List.nil_append]
          refine lst_move rfl rfl ?_
          refine lst_lit (vs := [(0, _)]) rfl rfl Tryd.underlying25 F.ti3 rfl rfl rfl ?_
          intro b51
          refine lst_append rfl rfl rfl Tryd.underlying25 F.ti3 rfl rfl rfl (by unfold maxLen; omega) (by omega) ?_
          intro An cn
          refine lst_lit (vs := [(0, _)]) rfl rfl Tryd.underlying49 F.ti25 rfl rfl rfl ?_
          intro b53
          refine lst_append rfl rfl rfl Tryd.underlying49 F.ti25 rfl rfl rfl (by unfold maxLen; omega) (by omega) ?_
          intro A4 c4
          refine lst_assign rfl rfl ?_
          refine lst_nil ?_
          refine ex_block_normal ?_
          refine ex_then ?_
          refine cod_region ?_
          refine lst_move rfl rfl ?_
          refine lst_int rfl rfl rfl (fun w => bin_add w (wrap_i64' _ (by omega) (by omega))) ?_
          refine lst_assign rfl rfl ?_
          refine lst_nil ?_
          have hml : (Ns ++ [(⟨An, cn, s.l ++ [y]⟩ : Sl)]).length = Ns.length + 1 := by simp
          have hmv : (Ns ++ [(⟨An, cn, s.l ++ [y]⟩ : Sl)]).map Sl.val = Ns.map Sl.val ++ [.slice An (s.l.length + 1) cn] := by simp [Sl.val]
          have hsr : (⟨An, cn, s.l ++ [y]⟩ : Sl).res = .row 3 1 An (s.l.length + 1) cn (ints s.l ++ [.int .i64 (y : Int)]) := by simp [Sl.res, ints_snoc]
          refine ex_round' (y + 1, A4, c4, Ns ++ [(⟨An, cn, s.l ++ [y]⟩ : Sl)]) ⟨by dsimp only; omega, by dsimp only; omega, by rw [List.map_append, hN.2.2.1, show y + 1 - fstC i s.l = (y - fstC i s.l) + 1 by omega, List.range'_concat, show fstC i s.l + 1 * (y - fstC i s.l) = y by omega]; simp, by rw [hml]; dsimp only; omega⟩ (by (try dsimp only); omega) (by dsimp only; rw [hml]; repeat (first | exact Sub.nil _ | refine Sub.cons rfl ?_)) (by dsimp only; rw [hml, hmv]; repeat (first | exact Pck.nil _ | exact Pck.refl _ | exact Pck.suffix _ _ | exact Pck.snoc2 hsr _ _ | (apply Pck.cons; focus ((repeat (first | exact Rem.here _ | apply Rem.there)); done)) | refine Pck.skip _ ?_))
        · skip
          obtain rfl : y = n - k + i + 1 := by omega
          refine cod_exit ?_
          refine ex_then_exit ?_
          refine ex_then_exit ?_
          refine ex_block_exit ?_
          refine ex_block_normal ?_
          refine ex_then ?_
          refine cod_region ?_
          refine lst_move rfl rfl ?_
          refine lst_int rfl rfl rfl (fun w => bin_add w (wrap_i64' _ (by omega) (by omega))) ?_
          refine lst_assign rfl rfl ?_
          refine lst_nil ?_
          refine ex_round' (x + 1, A3, c3, Ns) ⟨by dsimp only; omega, by rw [List.take_add_one, hsx, List.flatMap_append, hN.2.2.1]; simp [extC], by have := hN.2.2.2; dsimp only; omega⟩ (by (try dsimp only); omega) (by (try dsimp only); repeat (first | exact Sub.nil _ | refine Sub.cons rfl ?_)) (by (try dsimp only); repeat (first | exact Pck.nil _ | exact Pck.refl _ | (apply Pck.cons; focus ((repeat (first | exact Rem.here _ | apply Rem.there)); done)) | refine Pck.skip _ ?_))
      · skip
        have hi0 : i = 0 := by omega
        have hf : fstC i s.l = 0 := by unfold fstC; rw [if_pos hi0]
        let f : Nat := 0
        refine cod_skip ?_
        refine ex_then ?_
        refine cod_seq ?_
        refine cod_region ?_
        refine lst_move rfl rfl ?_
        refine lst_assign rfl rfl ?_
        refine lst_nil ?_
        refine ex_then ?_
        refine cod_block ?_
        refine cod_loop' (G := Nat × Option Addr × Nat × List Sl) (fun g => fstC i s.l ≤ g.1 ∧ g.1 ≤ n - k + i + 1 ∧ g.2.2.2.map Sl.l = ((preC n k i).take x).flatMap (extC n k i) ++ (List.range' (fstC i s.l) (g.1 - fstC i s.l)).map (fun y => s.l ++ [y]) ∧ g.2.2.2.length + fstC i s.l ≤ x * 8 + g.1) (fun g => n - k + i + 1 - g.1) (fun g => [(0, .int .i64 (n : Int)), (1, .int .i64 (k : Int)), (5, .slice A Ls.length c), (6, .int .i64 (i : Int)), (7, .slice g.2.1 g.2.2.2.length g.2.2.1), (8, .int .i64 (x : Int)), (10, .int .i64 (g.1 : Int))]) (fun g => .row 25 1 g.2.1 g.2.2.2.length g.2.2.1 (g.2.2.2.map Sl.val) :: .row 25 1 A Ls.length c (Ls.map Sl.val) :: (g.2.2.2.map Sl.res ++ (Ls.map Sl.res ++ []))) (f, A2, c2, Ms) ⟨Nat.le_of_eq hf, Nat.le_trans (Nat.le_of_eq hf.symm) (by omega), by rw [hM.2.1]; dsimp only [f]; rw [hf]; simp, by dsimp only [f]; rw [hf]; have := hM.2.2; omega⟩ (by repeat (first | exact Sub.nil _ | refine Sub.cons rfl ?_)) (by repeat (first | exact Pck.nil _ | exact Pck.refl _ | (apply Pck.cons; focus ((repeat (first | exact Rem.here _ | apply Rem.there)); done)) | refine Pck.skip _ ?_)) ?_
        rintro ⟨y, A3, c3, Ns⟩ hN
        dsimp only at hN ⊢
        refine cod_seq ?_
        refine cod_seq ?_
        refine cod_region ?_
        refine lst_move rfl rfl ?_
        refine lst_move rfl rfl ?_
        refine lst_move rfl rfl ?_
        refine lst_int rfl rfl rfl (fun w => bin_sub w (show IntKind.i64.wrap ((n : Int) - (k : Int)) = ((n - k : Nat) : Int) from by rw [wrap_i64' _ (by omega) (by omega)]; omega)) ?_
        refine lst_move rfl rfl ?_
        refine lst_int rfl rfl rfl (fun w => bin_add w (show IntKind.i64.wrap (((n - k : Nat) : Int) + (i : Int)) = ((n - k + i : Nat) : Int) from by rw [wrap_i64' _ (by omega) (by omega)]; omega)) ?_
        refine lst_int rfl rfl rfl bin_leq ?_
        refine lst_nil ?_
        refine ex_then ?_
        refine cod_cond_dec rfl (fun hc3 => ?_) (fun hc3 => ?_)
        · skip
          have hy : y ≤ n - k + i := by omega
          have hNl := hN.2.2.2
          refine cod_skip ?_
          refine ex_then ?_
          refine cod_seq ?_
          refine cod_block ?_
          refine cod_region ?_
          refine lst_move rfl rfl ?_
          refine lst_move rfl rfl ?_
          refine lst_move rfl rfl ?_
          refine lst_index_row (j := x) rfl rfl rfl Tryd.underlying49 F.ti25 rfl hx' rfl rfl ?_
          intro gA hgA
          refine lst_load_row (v := .slice s.A s.l.length s.c) rfl rfl F.one25 hgA (vals_get hs) ?_
          refine lst_fn (X := Option Addr × Nat) (vs := [_]) (p := fun _ => True) (val := fun y => .slice y.1 s.l.length y.2) (rs := fun y => [.row 3 1 y.1 s.l.length y.2 (ints s.l)]) rfl rfl F.ent27 (fun a w ha => by
            exact (dup_c s.A s.c s.l (by omega) w (fun h => by obtain ⟨h1, h2⟩ := row_none ha (e := 3) (size := 1) (n := s.l.length) (c := s.c) (xs := ints s.l) (by simp [hmr]) h; exact ⟨List.eq_nil_of_length_eq_zero h1, h2⟩) (row_reads ha (cells := ncell) (size := 1) (e := 3) (c := s.c) (n := s.l.length) (fun _ => rfl) (by rw [← ints_flat]; simp [hmr]) rfl)).mono (fun e w' h => by obtain ⟨A', c', h1, h2⟩ := h; exact ⟨(A', c'), trivial, h1, h2⟩)) ?_
          rintro ⟨Ac, cc⟩ -
          dsimp only [List.cons_append, List.nil_append]
          refine lst_move rfl rfl ?_
          refine lst_lit (vs := [(0, _)]) rfl rfl Tryd.underlying25 F.ti3 rfl rfl rfl ?_
          intro b51
          refine lst_append rfl rfl rfl Tryd.underlying25 F.ti3 rfl rfl rfl (by unfold maxLen; omega) (by omega) ?_
          intro An cn
          refine lst_lit (vs := [(0, _)]) rfl rfl Tryd.underlying49 F.ti25 rfl rfl rfl ?_
          intro b53
          refine lst_append rfl rfl rfl Tryd.underlying49 F.ti25 rfl rfl rfl (by unfold maxLen; omega) (by omega) ?_
          intro A4 c4
          refine lst_assign rfl rfl ?_
          refine lst_nil ?_
          refine ex_block_normal ?_
          refine ex_then ?_
          refine cod_region ?_
          refine lst_move rfl rfl ?_
          refine lst_int rfl rfl rfl (fun w => bin_add w (wrap_i64' _ (by omega) (by omega))) ?_
          refine lst_assign rfl rfl ?_
          refine lst_nil ?_
          have hml : (Ns ++ [(⟨An, cn, s.l ++ [y]⟩ : Sl)]).length = Ns.length + 1 := by simp
          have hmv : (Ns ++ [(⟨An, cn, s.l ++ [y]⟩ : Sl)]).map Sl.val = Ns.map Sl.val ++ [.slice An (s.l.length + 1) cn] := by simp [Sl.val]
          have hsr : (⟨An, cn, s.l ++ [y]⟩ : Sl).res = .row 3 1 An (s.l.length + 1) cn (ints s.l ++ [.int .i64 (y : Int)]) := by simp [Sl.res, ints_snoc]
          refine ex_round' (y + 1, A4, c4, Ns ++ [(⟨An, cn, s.l ++ [y]⟩ : Sl)]) ⟨by dsimp only; omega, by dsimp only; omega, by rw [List.map_append, hN.2.2.1, show y + 1 - fstC i s.l = (y - fstC i s.l) + 1 by omega, List.range'_concat, show fstC i s.l + 1 * (y - fstC i s.l) = y by omega]; simp, by rw [hml]; dsimp only; omega⟩ (by (try dsimp only); omega) (by dsimp only; rw [hml]; repeat (first | exact Sub.nil _ | refine Sub.cons rfl ?_)) (by dsimp only; rw [hml, hmv]; repeat (first | exact Pck.nil _ | exact Pck.refl _ | exact Pck.suffix _ _ | exact Pck.snoc2 hsr _ _ | (apply Pck.cons; focus ((repeat (first | exact Rem.here _ | apply Rem.there)); done)) | refine Pck.skip _ ?_))
        · skip
          obtain rfl : y = n - k + i + 1 := by omega
          refine cod_exit ?_
          refine ex_then_exit ?_
          refine ex_then_exit ?_
          refine ex_block_exit ?_
          refine ex_block_normal ?_
          refine ex_then ?_
          refine cod_region ?_
          refine lst_move rfl rfl ?_
          refine lst_int rfl rfl rfl (fun w => bin_add w (wrap_i64' _ (by omega) (by omega))) ?_
          refine lst_assign rfl rfl ?_
          refine lst_nil ?_
          refine ex_round' (x + 1, A3, c3, Ns) ⟨by dsimp only; omega, by rw [List.take_add_one, hsx, List.flatMap_append, hN.2.2.1]; simp [extC], by have := hN.2.2.2; dsimp only; omega⟩ (by (try dsimp only); omega) (by (try dsimp only); repeat (first | exact Sub.nil _ | refine Sub.cons rfl ?_)) (by (try dsimp only); repeat (first | exact Pck.nil _ | exact Pck.refl _ | (apply Pck.cons; focus ((repeat (first | exact Rem.here _ | apply Rem.there)); done)) | refine Pck.skip _ ?_))
    · skip
      obtain rfl : x = Ls.length := by omega
      have hMs : Ms.map Sl.l = preC n k (i + 1) := by rw [preC_succ, hM.2.1, List.take_of_length_le (by omega)]
      refine cod_exit ?_
      refine ex_then_exit ?_
      refine ex_then_exit ?_
      refine ex_block_exit ?_
      refine ex_then ?_
      refine cod_region ?_
      refine lst_move rfl rfl ?_
      refine lst_assign rfl rfl ?_
      refine lst_nil ?_
      refine ex_block_normal ?_
      refine ex_then ?_
      refine cod_region ?_
      refine lst_move rfl rfl ?_
      refine lst_int rfl rfl rfl (fun w => bin_add w (wrap_i64' _ (by omega) (by omega))) ?_
      refine lst_assign rfl rfl ?_
      refine lst_nil ?_
      refine ex_round' (i + 1, A2, c2, Ms) ⟨by omega, hMs⟩ (by (try dsimp only); omega) (by (try dsimp only); repeat (first | exact Sub.nil _ | refine Sub.cons rfl ?_)) (by (try dsimp only); repeat (first | exact Pck.nil _ | exact Pck.refl _ | exact Pck.suffix _ _ | exact Pck.pre _ _ | (apply Pck.cons; focus ((repeat (first | exact Rem.here _ | apply Rem.there)); done)) | refine Pck.skip _ ?_))
  · skip
    refine cod_exit ?_
    refine ex_then_exit ?_
    refine ex_then_exit ?_
    refine ex_block_exit ?_
    refine ex_then ?_
    refine cod_seq ?_
    refine cod_region ?_
    refine lst_move rfl rfl ?_
    refine lst_assign rfl rfl ?_
    refine lst_nil ?_
    refine ex_then ?_
    refine cod_ret ?_
    obtain rfl : i = k := by omega
    rw [List.append_nil]
    exact ex_ret rfl (fun a w ha => res_one rfl rfl ha) (fun a w ha => ⟨Ls, A, c, hI.2.trans (preC_all hn hk), rfl, ha.grown (List.Sublist.refl _)⟩)

end Go.Proofs.YtofkhehcnfiopaaDoor.N
namespace Go.Proofs.YtofkhehcnfiopaaDoor.N
open Go Go.RowKit Go.Proofs
theorem F.ent69 : Enters Tryd.prog 69 := enters_of Tryd.func69 rfl (by kernel_rfl)
theorem FiningFewest_c (nA : Option Addr) (nc : Nat) (nums : List Int) (w : World) (hN : RdL icell 1 w nA nums) : Calls Tryd.prog 19 #[.slice nA nums.length nc] w fun e w' => e = .returned (.bool true) ∧ Grew w w' [] := by
  refine enter (N := 80) [(0, .slice nA nums.length nc)] Tryd.func19 rfl Tryd.ntmps19 rfl rfl ?_
  refine cod_seq ?_
  refine cod_region ?_
  refine lst_assign rfl rfl ?_
  refine lst_nil ?_
  refine ex_then ?_
  refine cod_seq ?_
  refine cod_region ?_
  refine lst_move rfl rfl ?_
  refine lst_fn (X := Nat) (vs := [_]) (p := fun _ => True) (val := fun b => .pointer (some ⟨b, 0, none⟩)) (rs := fun b => [.blk b (hatO nA nums.length nc 0 11400714819323198485)]) rfl rfl F.ent22 (fun a w ha => (NewHat_c nA nums.length nc w).mono (fun e w' h => by obtain ⟨b, h1, h2⟩ := h; exact ⟨b, trivial, h1, h2⟩)) ?_
  intro hb _
  dsimp only [List.cons_append, List.nil_append]
  refine lst_assign rfl rfl ?_
  refine lst_nil ?_
  refine ex_then ?_
  refine cod_seq ?_
  refine cod_region ?_
  refine lst_move rfl rfl ?_
  refine lst_call (X := Nat × Nat × List Ag × Option Addr × Nat) (first := []) (cap := []) (vs := [_, _, _]) (p := fun y => y.1 ≤ 200 ∧ y.2.1 < 18446744073709551616 ∧ y.2.2.1.length ≤ 4 ∧ ∀ x ∈ y.2.2.1, x.ok) (val := fun y => .slice y.2.2.2.1 y.2.2.1.length y.2.2.2.2) (rs := fun y => .row 24 5 y.2.2.2.1 y.2.2.1.length y.2.2.2.2 (y.2.2.1.flatMap Ag.cells) :: .blk hb (hatO nA nums.length nc y.1 y.2.1) :: []) rfl rfl rfl F.ent34 (fun a w ha => (AgentsOf_c (C := ⟨Tryd.prog, _, _, _, _⟩) (T := []) (tk := 0) (many := 4) (few := 3) rfl rfl hN (by omega) (by omega) (by omega) (by omega) (by omega) ha).mono (fun e w' h => by obtain ⟨t', s', l, A', c', h1, h2, h3, h4, h5, h6⟩ := h; exact ⟨(t', s', l, A', c'), ⟨by omega, h2, h3, h4⟩, h5, h6⟩)) ?_
  rintro ⟨t1, s1, ags, aA, ac⟩ ⟨ht1, hs1, hagl, hago⟩
  dsimp only at ht1 hs1 hagl hago ⊢
  have hok : Oks ags := ⟨by omega, hago⟩
  refine lst_move rfl rfl ?_
  refine lst_call_pul (X := Nat × Nat) (vs := [_, _]) hb (fun y => hatO nA nums.length nc (t1 + 3 + 3) (y.1)) (fun y => y.1 < 18446744073709551616 ∧ y.2 < 64) (fun y => .int .i64 (y.2 : Int)) rfl rfl F.ent26 (fun a w ha => (PassOf_c (C := ⟨Tryd.prog, _, _, _, _⟩) rfl rfl hN (tk := t1) (st := s1) (few := 3) (by omega) hs1 (by omega) ha).mono (fun e w' h => by obtain ⟨s', x, h1, h2, h3, h4⟩ := h; exact ⟨(s', x), ⟨h1, h2⟩, h3, h4⟩)) ?_
  rintro ⟨s2, p⟩ ⟨hs2, hp⟩
  dsimp only at hs2 hp ⊢
  refine lst_assign rfl rfl ?_
  refine lst_assign rfl rfl ?_
  refine lst_nil ?_
  refine ex_then ?_
  refine cod_seq ?_
  refine cod_region ?_
  refine lst_move rfl rfl ?_
  refine lst_move rfl rfl ?_
  refine lst_fn (X := List Nat × Option Addr × Nat) (vs := [_, _]) (p := fun y => FewS ags.length (asAll ags p) y.1 ∧ SetOk ags.length y.1) (val := fun y => .tuple #[.slice y.2.1 y.1.length y.2.2, .int .i64 0]) (rs := fun y => [.row 3 1 y.2.1 y.1.length y.2.2 (ints y.1)]) rfl rfl F.ent67 (fun a w ha => (Fewest_ok aA ac ags hok p hp w (row_reads ha (cells := Ag.cells) (size := 5) (e := 24) (c := ac) (n := ags.length) (fun _ => rfl) (InR.mem (A := aA)) rfl)).mono (fun e w' h => by obtain ⟨W, A', c', h1, h2, h3, h4⟩ := h; exact ⟨(W, A', c'), ⟨h1, h2⟩, h3, h4⟩)) ?_
  rintro ⟨W, wA, wc⟩ ⟨hfew, hset⟩
  dsimp only [List.cons_append, List.nil_append] at hfew hset ⊢
  have hwl := hset.len
  refine lst_move rfl rfl ?_
  refine lst_extract rfl rfl rfl ?_
  refine lst_extract rfl rfl rfl ?_
  refine lst_assign rfl rfl ?_
  refine lst_assign rfl rfl ?_
  refine lst_nil ?_
  refine ex_then ?_
  refine cod_seq ?_
  refine cod_region ?_
  refine lst_move rfl rfl ?_
  refine lst_move rfl rfl ?_
  refine lst_fn (X := Option Addr × Nat) (vs := [_, _]) (p := fun _ => True) (val := fun y => .tuple #[.slice y.1 (hopeL ags (p)).length y.2, .int .i64 0]) (rs := fun y => [.row 3 1 y.1 (hopeL ags (p)).length y.2 (ints (hopeL ags (p)))]) rfl rfl F.ent51 (fun a w ha => (Hopeless_ok aA ac ags hok (p) hp w (row_reads ha (cells := Ag.cells) (size := 5) (e := 24) (c := ac) (n := ags.length) (fun _ => rfl) (InR.mem (A := aA)) rfl)).mono (fun e w' h => by obtain ⟨A', c', h1, h2⟩ := h; exact ⟨(A', c'), trivial, h1, h2⟩)) ?_
  rintro ⟨lA1, lc1⟩ -
  dsimp only [List.cons_append, List.nil_append]
  have hb1 := hope_le ags p
  refine lst_move rfl rfl ?_
  refine lst_extract rfl rfl rfl ?_
  refine lst_extract rfl rfl rfl ?_
  refine lst_assign rfl rfl ?_
  refine lst_assign rfl rfl ?_
  refine lst_nil ?_
  refine ex_then ?_
  refine cod_seq ?_
  refine cod_seq ?_
  refine cod_region ?_
  refine lst_move rfl rfl ?_
  refine lst_int (v := .bool false) rfl rfl rfl (fun w => by rw [bin_neq]; simp) ?_
  refine lst_nil ?_
  refine ex_then ?_
  refine cod_cond_false rfl ?_
  refine cod_skip ?_
  refine ex_then ?_
  refine cod_seq ?_
  refine cod_seq ?_
  refine cod_region ?_
  refine lst_assign rfl rfl ?_
  refine lst_nil ?_
  refine ex_then ?_
  refine cod_block ?_
  refine cod_loop' (G := Nat) (fun g => g ≤ ags.length + 1 ∧ SeenC ags.length (asAll ags p) g 0) (fun g => ags.length + 1 - g) (fun g => [(4, .slice aA ags.length ac), (5, .int .i64 (p : Int)), (6, .slice wA W.length wc), (7, .int .i64 0), (8, .slice lA1 (hopeL ags p).length lc1), (10, .int .i64 (g : Int))]) (fun g => .row 3 1 lA1 (hopeL ags p).length lc1 (ints (hopeL ags p)) :: .row 3 1 wA W.length wc (ints W) :: .row 24 5 aA ags.length ac (ags.flatMap Ag.cells) :: []) (0) ⟨Nat.zero_le _, SeenC.start⟩ (by repeat (first | exact Sub.nil _ | refine Sub.cons rfl ?_)) (by repeat (first | exact Pck.nil _ | exact Pck.refl _ | (apply Pck.cons; focus ((repeat (first | exact Rem.here _ | apply Rem.there)); done)) | refine Pck.skip _ ?_)) ?_
  rintro k ⟨hk, hseen⟩
  try dsimp only
  refine cod_seq ?_
  refine cod_seq ?_
  refine cod_region ?_
  refine lst_move rfl rfl ?_
  refine lst_move rfl rfl ?_
  refine lst_len rfl rfl Tryd.underlying22 ?_
  refine lst_int rfl rfl rfl bin_leq ?_
  refine lst_nil ?_
  refine ex_then ?_
  refine cod_cond_dec rfl (fun hc1 => ?_) (fun hc1 => ?_)
  · skip
    have hkn : k ≤ ags.length := by omega
    refine cod_skip ?_
    refine ex_then ?_
    refine cod_seq ?_
    refine cod_block ?_
    refine cod_seq ?_
    refine cod_region ?_
    refine lst_move rfl rfl ?_
    refine lst_len rfl rfl Tryd.underlying22 ?_
    refine lst_move rfl rfl ?_
    refine lst_call (X := List Sl × Option Addr × Nat) (first := []) (cap := []) (vs := [_, _]) (p := fun y => y.1.map Sl.l = chsL ags.length k 0) (val := fun y => .slice y.2.1 y.1.length y.2.2) (rs := fun y => .row 25 1 y.2.1 y.1.length y.2.2 (y.1.map Sl.val) :: .row 3 1 lA1 (hopeL ags p).length lc1 (ints (hopeL ags p)) :: .row 3 1 wA W.length wc (ints W) :: .row 24 5 aA ags.length ac (ags.flatMap Ag.cells) :: (y.1.map Sl.res ++ [])) rfl rfl rfl F.ent69 (fun a w ha => by
      exact (Choose_c ags.length k hagl hkn w).mono (fun e w' h => by obtain ⟨Ls, A', c', h1, h2, h3⟩ := h; refine ⟨(Ls, A', c'), h1, h2, (ha.more h3).pck (Pck.cons (.here _) ?_)⟩; rw [List.append_nil]; exact Pck.swap (Ls.map Sl.res) [.row 3 1 lA1 (hopeL ags p).length lc1 (ints (hopeL ags p)), .row 3 1 wA W.length wc (ints W), .row 24 5 aA ags.length ac (ags.flatMap Ag.cells)])) ?_
    rintro ⟨Ls, lA, lc⟩ hLs
    dsimp only at hLs ⊢
    have hLl : Ls.length = (chsL ags.length k 0).length := by rw [← hLs, List.length_map]
    have hLe := chs_le (f := 0) hagl (show k ≤ 4 by omega)
    refine lst_assign rfl rfl ?_
    refine lst_nil ?_
    refine ex_then ?_
    refine cod_seq ?_
    refine cod_region ?_
    refine lst_assign rfl rfl ?_
    refine lst_nil ?_
    refine ex_then ?_
    refine cod_block ?_
    refine cod_loop' (G := Nat) (fun g => g ≤ Ls.length ∧ SeenC ags.length (asAll ags p) k g) (fun g => Ls.length - g) (fun g => [(4, .slice aA ags.length ac), (5, .int .i64 (p : Int)), (6, .slice wA W.length wc), (7, .int .i64 0), (8, .slice lA1 (hopeL ags p).length lc1), (10, .int .i64 (k : Int)), (11, .slice lA Ls.length lc), (12, .int .i64 (g : Int))]) (fun g => .row 25 1 lA Ls.length lc (Ls.map Sl.val) :: .row 3 1 lA1 (hopeL ags p).length lc1 (ints (hopeL ags p)) :: .row 3 1 wA W.length wc (ints W) :: .row 24 5 aA ags.length ac (ags.flatMap Ag.cells) :: (Ls.map Sl.res ++ [])) (0) ⟨Nat.zero_le _, hseen⟩ (by repeat (first | exact Sub.nil _ | refine Sub.cons rfl ?_)) (by repeat (first | exact Pck.nil _ | exact Pck.refl _ | (apply Pck.cons; focus ((repeat (first | exact Rem.here _ | apply Rem.there)); done)) | refine Pck.skip _ ?_)) ?_
    rintro i ⟨hil, hsee⟩
    try dsimp only
    refine cod_seq ?_
    refine cod_seq ?_
    refine cod_region ?_
    refine lst_move rfl rfl ?_
    refine lst_move rfl rfl ?_
    refine lst_len rfl rfl Tryd.underlying49 ?_
    refine lst_int rfl rfl rfl bin_lss ?_
    refine lst_nil ?_
    refine ex_then ?_
    refine cod_cond_dec rfl (fun hc2 => ?_) (fun hc2 => ?_)
    · skip
      have hi' : i < Ls.length := by omega
      refine cod_know (φ := ∃ g, lA = some ⟨g, 0, none⟩) (fun a w ha => row_some (ha.own _ (InR.mem (A := lA))) (by omega)) (fun hgL => ?_)
      obtain ⟨gL, rfl⟩ := hgL
      obtain ⟨s, hs⟩ : ∃ s, Ls[i]? = some s := ⟨_, List.getElem?_eq_getElem hi'⟩
      have hsx : (chsL ags.length k 0)[i]? = some s.l := by rw [← hLs, List.getElem?_map, hs]; rfl
      have hsm : s ∈ Ls := List.mem_of_getElem? hs
      obtain ⟨hsl, hsn⟩ := chs_mem (List.mem_of_getElem? hsx)
      have hsl4 : s.l.length ≤ 4 := by omega
      have hsn : ∀ j ∈ s.l, j < ags.length := fun j hj => (hsn j hj).2
      have hoko := onlyL_ok hok hsl4 hsn
      have hb2 := hope_le (onlyL ags s.l) p
      refine cod_skip ?_
      refine ex_then ?_
      refine cod_seq ?_
      refine cod_block ?_
      refine cod_seq ?_
      refine cod_region ?_
      refine lst_move rfl rfl ?_
      refine lst_move rfl rfl ?_
      refine lst_move rfl rfl ?_
      refine lst_index (j := i) rfl rfl rfl Tryd.underlying49 F.ti25 rfl hi' ?_
      refine lst_load_at (v := .slice s.A s.l.length s.c) rfl rfl F.one25 (fun a w ha => row_cell ha (InR.mem (A := some ⟨gL, 0, none⟩)) rfl (by rw [Nat.zero_add]; exact vals_get hs)) ?_
      refine lst_fn (X := Option Addr × Nat) (vs := [_, _]) (p := fun _ => True) (val := fun y => .slice y.1 (onlyL ags s.l).length y.2) (rs := fun y => [.row 24 5 y.1 (onlyL ags s.l).length y.2 ((onlyL ags s.l).flatMap Ag.cells)]) rfl rfl F.ent70 (fun a w ha => (Only_c aA s.A ac s.c ags s.l hsl4 hsn w (row_reads ha (cells := Ag.cells) (size := 5) (e := 24) (c := ac) (n := ags.length) (fun _ => rfl) (InR.mem (A := aA)) rfl) (row_reads ha (cells := ncell) (size := 1) (e := 3) (c := s.c) (n := s.l.length) (fun _ => rfl) (by have hm : Res.row 3 1 s.A s.l.length s.c (ints s.l) ∈ Ls.map Sl.res := List.mem_map.2 ⟨s, hsm, rfl⟩; rw [← ints_flat]; simp [hm]) rfl)).mono (fun e w' h => by obtain ⟨A', c', h1, h2⟩ := h; exact ⟨(A', c'), trivial, h1, h2⟩)) ?_
      rintro ⟨oA, oc⟩ -
      dsimp only [List.cons_append, List.nil_append]
      refine lst_move rfl rfl ?_
      refine lst_fn (X := Option Addr × Nat) (vs := [_, _]) (p := fun _ => True) (val := fun y => .tuple #[.slice y.1 (hopeL (onlyL ags s.l) (p)).length y.2, .int .i64 0]) (rs := fun y => [.row 3 1 y.1 (hopeL (onlyL ags s.l) (p)).length y.2 (ints (hopeL (onlyL ags s.l) (p)))]) rfl rfl F.ent51 (fun a w ha => (Hopeless_ok oA oc (onlyL ags s.l) hoko (p) hp w (row_reads ha (cells := Ag.cells) (size := 5) (e := 24) (c := oc) (n := (onlyL ags s.l).length) (fun _ => rfl) (InR.mem (A := oA)) rfl)).mono (fun e w' h => by obtain ⟨A', c', h1, h2⟩ := h; exact ⟨(A', c'), trivial, h1, h2⟩)) ?_
      rintro ⟨lA2, lc2⟩ -
      dsimp only [List.cons_append, List.nil_append]
      refine lst_move rfl rfl ?_
      refine lst_extract rfl rfl rfl ?_
      refine lst_extract rfl rfl rfl ?_
      refine lst_assign rfl rfl ?_
      refine lst_assign rfl rfl ?_
      refine lst_nil ?_
      refine ex_then ?_
      refine cod_seq ?_
      refine cod_seq ?_
      refine cod_region ?_
      refine lst_move rfl rfl ?_
      refine lst_int (v := .bool false) rfl rfl rfl (fun w => by rw [bin_neq]; simp) ?_
      refine lst_nil ?_
      refine ex_then ?_
      refine cod_cond_false rfl ?_
      refine cod_skip ?_
      refine ex_then ?_
      refine cod_seq ?_
      refine cod_region ?_
      refine lst_move rfl rfl ?_
      refine lst_move rfl rfl ?_
      refine lst_fn0 (v := .bool (decide (castL (hopeL (onlyL ags s.l) p) = castL (hopeL ags p)))) (vs := [_, _]) rfl rfl F.ent32 (fun a w ha => by
        have h := eqInts_c lA2 lA1 lc2 lc1 (castL (hopeL (onlyL ags s.l) p)) (castL (hopeL ags p)) (by rw [castL_len]; omega) w (RdL.cast (row_reads ha (cells := ncell) (size := 1) (e := 3) (c := lc2) (n := (hopeL (onlyL ags s.l) p).length) (fun _ => rfl) (by rw [← ints_flat]; exact InR.mem (A := lA2)) rfl)) (RdL.cast (row_reads ha (cells := ncell) (size := 1) (e := 3) (c := lc1) (n := (hopeL ags p).length) (fun _ => rfl) (by rw [← ints_flat]; exact InR.mem (A := lA1)) rfl))
        rw [castL_len, castL_len] at h
        exact h) ?_
      refine lst_nil ?_
      refine ex_then ?_
      refine cod_cond_dec rfl (fun hc4 => ?_) (fun hc4 => ?_)
      · skip
        have hP : asAll ags p s.l := hope_iff.1 (castL_inj hc4)
        obtain rfl : W = s.l := hfew.unique ⟨k, i, hsx, hP, hsee⟩
        refine cod_seq ?_
        refine cod_region ?_
        refine lst_move rfl rfl ?_
        refine lst_int (v := .bool true) rfl rfl rfl (fun w => by rw [bin_eql]; simp) ?_
        refine lst_move rfl rfl ?_
        refine lst_on rfl rfl ?_
        refine lst_move rfl rfl ?_
        refine lst_on rfl rfl ?_
        refine lst_move rfl rfl ?_
        refine lst_on rfl rfl ?_
        refine lst_move rfl rfl ?_
        refine lst_on rfl rfl ?_
        refine lst_index (j := i) rfl rfl rfl Tryd.underlying49 F.ti25 rfl hi' ?_
        refine lst_on rfl rfl ?_
        refine lst_load_at (v := .slice s.A s.l.length s.c) rfl rfl F.one25 (fun a w ha => row_cell ha (InR.mem (A := some ⟨gL, 0, none⟩)) rfl (by rw [Nat.zero_add]; exact vals_get hs)) ?_
        refine lst_on rfl rfl ?_
        refine lst_fn0 (v := .bool true) (vs := [_, _]) rfl rfl F.ent32 (fun a w ha => by
          have h := eqInts_c wA s.A wc s.c (castL s.l) (castL s.l) (by rw [castL_len]; omega) w (RdL.cast (row_reads ha (cells := ncell) (size := 1) (e := 3) (c := wc) (n := s.l.length) (fun _ => rfl) (by rw [← ints_flat]; exact InR.mem (A := wA)) rfl)) (RdL.cast (row_reads ha (cells := ncell) (size := 1) (e := 3) (c := s.c) (n := s.l.length) (fun _ => rfl) (by have hm : Res.row 3 1 s.A s.l.length s.c (ints s.l) ∈ Ls.map Sl.res := List.mem_map.2 ⟨s, hsm, rfl⟩; rw [← ints_flat]; simp [hm]) rfl))
          rw [castL_len] at h
          exact h.mono (fun e w' h => ⟨h.1.trans (by simp), h.2⟩)) ?_
        refine lst_pick_true rfl rfl rfl ?_
        refine lst_move rfl rfl ?_
        refine lst_on rfl rfl ?_
        refine lst_fn0 (vs := []) rfl rfl F.ent21 (fun a w ha => fined_c w) ?_
        refine lst_pick_true rfl rfl rfl ?_
        refine lst_assign rfl rfl ?_
        refine lst_nil ?_
        refine ex_then ?_
        refine cod_ret ?_
        refine ex_block_ret ?_
        refine ex_then_ret ?_
        refine ex_then_ret ?_
        refine ex_block_ret ?_
        refine ex_block_ret ?_
        refine ex_then_ret ?_
        refine ex_then_ret ?_
        refine ex_block_ret ?_
        refine ex_then_ret ?_
        exact ex_ret rfl (fun a w ha => res_one rfl rfl ha) (fun a w ha => ⟨rfl, ha.grown (List.nil_sublist _)⟩)
      · skip
        refine cod_skip ?_
        refine ex_block_normal ?_
        refine ex_then ?_
        refine cod_region ?_
        refine lst_move rfl rfl ?_
        refine lst_int rfl rfl rfl (fun w => bin_add w (wrap_i64' _ (by omega) (by omega))) ?_
        refine lst_assign rfl rfl ?_
        refine lst_nil ?_
        have hnP : ¬ asAll ags p s.l := fun h => hc4 (by rw [hope_iff.2 h])
        refine ex_round' (i + 1) ⟨by omega, hsee.next hsx hnP⟩ (by (try dsimp only); omega) (by repeat (first | exact Sub.nil _ | refine Sub.cons rfl ?_)) (by repeat (first | exact Pck.nil _ | exact Pck.refl _ | (apply Pck.cons; focus ((repeat (first | exact Rem.here _ | apply Rem.there)); done)) | refine Pck.skip _ ?_))
    · skip
      obtain rfl : i = Ls.length := by omega
      refine cod_exit ?_
      refine ex_then_exit ?_
      refine ex_then_exit ?_
      refine ex_block_exit ?_
      refine ex_block_normal ?_
      refine ex_then ?_
      refine cod_region ?_
      refine lst_move rfl rfl ?_
      refine lst_int rfl rfl rfl (fun w => bin_add w (wrap_i64' _ (by omega) (by omega))) ?_
      refine lst_assign rfl rfl ?_
      refine lst_nil ?_
      refine ex_round' (k + 1) ⟨by omega, hsee.round (by omega)⟩ (by (try dsimp only); omega) (by repeat (first | exact Sub.nil _ | refine Sub.cons rfl ?_)) (by repeat (first | exact Pck.nil _ | exact Pck.refl _ | (apply Pck.cons; focus ((repeat (first | exact Rem.here _ | apply Rem.there)); done)) | refine Pck.skip _ ?_))
  · skip
    exfalso
    obtain rfl : k = ags.length + 1 := by omega
    have := hseen.top
    omega
    -- done

end Go.Proofs.YtofkhehcnfiopaaDoor.N
