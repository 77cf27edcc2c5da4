/- Parts of the walk of the law CharFirst: T18, T19, ChQ, T20, T21, ChR, T22, T23, ChB, T24, ChC, T25, ChF. -/
import Derived.Test.YteppiphdbondeaaSCharFirst08
import Derived.Test.YteppiphdbondeaaProg
namespace Go.Proofs.Yteppiphdbondeaa.N
open Go Go.RowKit Go.Proofs
set_option linter.unusedSectionVars false
variable [I : Sys]
theorem F.ent72 : Enters Try.prog 72 := enters_of Try.func72 rfl (by kernel_rfl)
theorem list_c (fA dA : Option Addr) (fc nd dc kiln : Nat) (fs : List Flt) (h3 : fs.length <= 3) (z0 z1 z2 zw : Nat) (w : World) : Calls Try.prog 72 #[.agg (CA fA fs.length fc kiln dA nd dc).toArray, .agg (V4 z0 z1 z2 zw).toArray] w fun e w' => ∃ A c, e = .returned (.slice A fs.length c) ∧ Grew w w' [.row 3 1 A fs.length c (ints ([z0, z1, z2].take fs.length))] := by
 refine enter (N := 13) [(0, .agg (CA fA fs.length fc kiln dA nd dc).toArray), (1, .agg (V4 z0 z1 z2 zw).toArray)] Try.func72 rfl Try.ntmps72 rfl rfl ?_
 refine cod_seq (cod_region (lst_box rfl rfl ?_))
 intro b2
 refine lst_box rfl rfl ?_
 intro b3
 refine lst_assign rfl rfl (lst_nil (ex_then (cod_seq (cod_region (lst_lit0 rfl Try.underlying22 F.ti3 ?_)))))
 intro b5
 refine lst_as_row 1 (.head _) ?_
 refine lst_field_z rfl rfl F.fi95_0 F.ti92 ?_
 refine lst_field_z rfl rfl F.fi77_0 F.ti27 ?_
 refine lst_field_z rfl rfl F.fi27_0 F.ti25 ?_
 refine lst_load rfl rfl F.one25 ?_
 refine lst_len rfl rfl Try.underlying25 ?_
 refine lst_slice_arr rfl rfl rfl Try.underlying92 F.ti3 h3 ?_
 refine lst_append_ints (l := [z0, z1, z2].take fs.length) rfl rfl rfl Try.underlying22 F.ti3 rfl (fun a w ha j u hu => by
  have h9 := ha.mem_blk (InB.mem (b := b3) (o := .cells (V4 z0 z1 z2 zw).toArray 95 (0, 0)))
  rw [addr_add, cell_of_row w b3 _ _ _ _ h9]
  have h8 := ints_take (w := .int .u8 (zw : Int)) hu
  simpa using h8) (by simp; omega) (by unfold maxLen; omega) om ?_
 intro A1 c1
 refine lst_assign rfl rfl (lst_nil (ex_then (cod_ret ?_)))
 exact ex_ret rfl (fun a w ha => res_one rfl rfl ha) (fun a w ha => ⟨A1, c1, by rw [Nat.zero_add], by rw [Nat.zero_add] at ha; exact ha.grown (.cons_cons _ nsl)⟩)

theorem worked_c {fA dA pA : Option Addr} {fc dc pc kiln : Nat} {fs : List Flt} {days : List Nat} {ms : List MetaZ} (hc : ChV fs kiln days) (hml0 : ms.length < 1000000) (hms : ∀ m ∈ ms, m.2.2.length < 1000000) (w : World) (hF : RdL Flt.cells 4 w fA fs) (hD : RdL ncell 1 w dA days) (hP : RdZ w pA ms) : Calls Try.prog 51 #[.agg (CA fA fs.length fc kiln dA days.length dc).toArray, .slice pA ms.length pc] w fun e w' => ∃ (oA : Option Addr) (oc : Nat) (mr : List Meta), mr.reverse.map (·.2.2) = (workE fs kiln days (ms.map (·.2.2))).2.1 ∧ e = .returned (.tuple #[.slice oA mr.length oc, .int .i64 (((workE fs kiln days (ms.map (·.2.2))).2.2 : Nat) : Int), .int .i64 (((workE fs kiln days (ms.map (·.2.2))).1 : Nat) : Int)]) ∧ Grew w w' (.row 22 1 oA mr.length oc (mr.reverse.map mcell) :: mr.map mrow) := by
 have hm0 : MOk (start fs) := startN_ok hc.f3 hc.ff _ (Nat.le_refl _)
 obtain ⟨x0, x1, x2, xw, hx, hx0, hx1, hx2, hxw⟩ := hm0.form
 obtain ⟨db, dbo, hdA⟩ := rd_some hD hc.d1
 refine enter (N := 100) [(0, .agg (CA fA fs.length fc kiln dA days.length dc).toArray), (1, .slice pA ms.length pc)] Try.func51 rfl Try.ntmps51 rfl rfl ?_
 refine cod_seq (cod_region (lst_box rfl rfl ?_))
 intro b2
 refine lst_assign rfl rfl (lst_assign rfl rfl (lst_assign rfl rfl (lst_nil (ex_then (cod_seq (cod_seq (cod_region (lst_move rfl rfl (lst_len rfl rfl Try.underlying29 ?_)))))))))
 refine lst_field_z rfl rfl F.fi77_0 F.ti27 ?_
 refine lst_field_z rfl rfl F.fi27_2 F.ti22 ?_
 refine lst_load rfl rfl F.one22 ?_
 refine lst_len rfl rfl Try.underlying22 ?_
 refine lst_field_z rfl rfl F.fi77_0 F.ti27 ?_
 refine lst_field_z rfl rfl F.fi27_2 F.ti22 ?_
 refine lst_load rfl rfl F.one22 ?_
 refine lst_len rfl rfl Try.underlying22 ?_
 refine lst_fn0 (v := .int .i64 ((szd ms.length (days.length) (days.length) : Nat) : Int)) (vs := [_, _, _]) rfl rfl F.ent65 (fun a w ha => sized_c (ms.length) (days.length) (days.length) w) ?_
 refine lst_assign rfl rfl (lst_nil (ex_then (cod_seq (cod_region (lst_move rfl rfl (lst_int rfl rfl rfl bin_neq ?_))))))
 refine lst_nil (ex_then (cod_cond_dec rfl (fun hc0 => ?_) (fun hc0 => ?_)))
 ·refine cod_seq (cod_region (lst_move rfl rfl (lst_assign rfl rfl (lst_assign rfl rfl (lst_assign rfl rfl (lst_nil (ex_then (cod_ret (ex_then_ret ?_)))))))))
  exact ex_ret rfl (fun a w ha => res_three rfl rfl rfl rfl ha) (fun a w ha => ⟨none, 0, [], by rw [show workE fs kiln days (ms.map (·.2.2)) = (szd ms.length days.length days.length, [], 0) from by unfold workE; rw [List.length_map, if_pos om]]; rfl, by rw [show workE fs kiln days (ms.map (·.2.2)) = (szd ms.length days.length days.length, [], 0) from by unfold workE; rw [List.length_map, if_pos om]]; rfl, (ha.add_nil 22 1).grown (.cons_cons _ nsl)⟩)
 ·skip
  refine cod_skip (ex_then (cod_seq (cod_region (lst_loadN rfl rfl F.agg77 F.ti77 ?_))))
  refine lst_fn0 (v := .agg (V4 x0 x1 x2 xw).toArray) (vs := [_]) rfl rfl F.ent60 (fun a w ha => (start_c fA dA fc days.length dc kiln fs hc.f3 hc.ff w (hF.later ha.below)).mono (fun e w' h => ⟨h.1.trans (by rw [hx]; rfl), h.2⟩)) ?_
  refine lst_alloc rfl F.ti95 ?_
  intro b8
  refine lst_store rfl rfl F.ti95 rfl ?_
  refine lst_nil (ex_then (cod_seq (cod_region (lst_loadN rfl rfl F.agg77 F.ti77 ?_))))
  refine lst_loadN rfl rfl F.agg95 F.ti95 ?_
  refine lst_fn (X := Option Addr × Nat) (vs := [_, _]) (p := fun _ => True) (val := fun g => .slice g.1 ([x0, x1, x2].take fs.length).length g.2) (rs := fun g => [mrow (g.1, g.2, [x0, x1, x2].take fs.length)]) rfl rfl F.ent72 (fun a w ha => (list_c fA dA fc days.length dc kiln fs hc.f3 x0 x1 x2 xw w).mono (fun e w' h => by
   obtain ⟨A, c, h1, h2⟩ := h
   have hlt : ([x0, x1, x2].take fs.length).length = fs.length := by have := hc.f3; simp; omega
   exact ⟨(A, c), trivial, by rw [hlt]; exact h1, by unfold mrow; dsimp only; rw [hlt]; exact h2⟩)) ?_
  rintro ⟨A1, c1⟩ -
  dsimp only [List.cons_append, List.nil_append]
  refine lst_lit (vs := [(0, _)]) rfl rfl Try.underlying29 F.ti22 rfl rfl rfl ?_
  intro b37
  refine lst_blk_row1 (.head _) ?_
  refine lst_assign rfl rfl (lst_nil (ex_then (cod_seq (cod_region (lst_assign rfl rfl (lst_nil (ex_then (cod_seq (cod_seq (cod_region (lst_move rfl rfl (lst_len rfl rfl Try.underlying29 ?_))))))))))))
  refine lst_move rfl rfl (lst_nil (ex_then (cod_block (cod_loop' (G := Mor × Nat × Nat × List Meta × Option Addr × Nat × List (List Nat)) (fun g => WkI fs kiln days (ms.map (·.2.2)) g.2.1 g.1 g.2.2.1 g.2.2.2.2.2.2 ∧ g.2.2.2.1.reverse.map (·.2.2) = strs fs (start fs) :: g.2.2.2.2.2.2 ∧ g.2.2.2.1.length = g.2.1 + 1) (fun g => ms.length - g.2.1) (fun g => [(2, .pointer (some ⟨b2, 0, none⟩)), (8, .pointer (some ⟨b8, 0, none⟩)), (9, .slice g.2.2.2.2.1 g.2.2.2.1.length g.2.2.2.2.2.1), (10, .int .i64 (g.2.2.1 : Int)), (38, .slice pA ms.length pc), (39, .int .i64 (ms.length : Int)), (40, .int .i64 (g.2.1 : Int))]) (fun g => .blk b8 (.cells (Mor.cells g.1).toArray 95 (0, 0)) :: .row 22 1 g.2.2.2.2.1 g.2.2.2.1.length g.2.2.2.2.2.1 (g.2.2.2.1.reverse.map mcell) :: .blk b2 (.cells (CA fA fs.length fc kiln dA days.length dc).toArray 77 (0, 0)) :: g.2.2.2.1.map mrow) ((⟨[x0, x1, x2], xw⟩ : Mor), 0, 0, [(A1, c1, [x0, x1, x2].take fs.length)], some ⟨b37, 0, none⟩, 1, []) ⟨hx ▸ WkI.first hm0, by rw [hx]; rfl, rfl⟩ sbn pkk ?_))))
  rintro ⟨m, k, fires, mr, oA, oc, out⟩ ⟨hI, hmr, hml⟩
  dsimp only at hI hmr hml ⊢
  obtain ⟨z0, z1, z2, zw, rfl, hz0, hz1, hz2, hzw⟩ := hI.ok.form
  have hfle := hI.fle
  have hkle := hI.le
  rw [List.length_map] at hkle
  have hd4 := hc.d4
  rw [show Mor.cells (⟨[z0, z1, z2], zw⟩ : Mor) = (V4 z0 z1 z2 zw) from rfl]
  refine cod_seq (cod_region (lst_int rfl rfl rfl bin_lss ?_))
  refine lst_nil (ex_then (cod_seq (cod_cond_dec rfl (fun hc1 => ?_) (fun hc1 => ?_))))
  ·have hk' : k < ms.length := by omega
   obtain ⟨pb, po, rfl, hpb, hpc⟩ := hP.outer om
   obtain ⟨me, hme⟩ : ∃ x, ms[k]? = some x := ⟨_, List.getElem?_eq_getElem hk'⟩
   have hin := hP.inner me (List.mem_of_getElem? hme)
   have hmlen := hms me (List.mem_of_getElem? hme)
   obtain ⟨lA, lc, l⟩ := me
   dsimp only at hin hmlen
   have hpl : (ms.map (·.2.2))[k]? = some l := by rw [List.getElem?_map, hme]; rfl
   have hml2 : ms.length = days.length := by unfold szd at hc0; split at hc0; omega; split at hc0; omega; omega
   obtain ⟨sugar, hsx⟩ : ∃ x, days[k]? = some x := ⟨_, List.getElem?_eq_getElem om⟩
   have hxs : sugar <= 12 := hc.dd sugar (List.mem_of_getElem? hsx)
   refine cod_skip (ex_then (cod_seq (cod_block (cod_seq (cod_region (lst_move rfl rfl (lst_index (j := k) rfl rfl rfl Try.underlying29 F.ti22 rfl hk' ?_)))))))
   refine lst_load_at (v := .slice lA l.length lc) rfl rfl F.one22 (fun a w ha => ha.old (hpc k _ hme 0 _ rfl) hpb) ?_
   refine lst_assign rfl rfl (lst_assign rfl rfl (lst_nil (ex_then (cod_seq (cod_seq (cod_region (lst_move rfl rfl (lst_len rfl rfl Try.underlying22 ?_))))))))
   refine lst_field_z rfl rfl F.fi77_0 F.ti27 ?_
   refine lst_field_z rfl rfl F.fi27_0 F.ti25 ?_
   refine lst_load rfl rfl F.one25 ?_
   refine lst_len rfl rfl Try.underlying25 ?_
   refine lst_field_z rfl rfl F.fi77_0 F.ti27 ?_
   refine lst_field_z rfl rfl F.fi27_0 F.ti25 ?_
   refine lst_load rfl rfl F.one25 ?_
   refine lst_len rfl rfl Try.underlying25 ?_
   refine lst_fn0 (v := .int .i64 ((szd l.length (fs.length) (fs.length) : Nat) : Int)) (vs := [_, _, _]) rfl rfl F.ent65 (fun a w ha => sized_c (l.length) (fs.length) (fs.length) w) ?_
   refine lst_assign rfl rfl (lst_nil (ex_then (cod_seq (cod_region (lst_move rfl rfl (lst_int rfl rfl rfl bin_neq ?_))))))
   refine lst_nil (ex_then (cod_cond_dec rfl (fun hc2 => ?_) (fun hc2 => ?_)))
   ·refine cod_seq (cod_region (lst_move rfl rfl (lst_assign rfl rfl (lst_assign rfl rfl (lst_assign rfl rfl (lst_nil (ex_then (cod_ret (ex_then_ret (ex_block_ret (ex_then_ret (ex_then_ret (ex_block_ret (ex_then_ret ?_))))))))))))))
    exact ex_ret rfl (fun a w ha => res_three rfl rfl rfl rfl ha) (fun a w ha => ⟨none, 0, [], by rw [show workE fs kiln days (ms.map (·.2.2)) = (szd l.length fs.length fs.length, [], 0) from by unfold workE; rw [List.length_map, if_neg om, hI.short hpl om, if_pos om]]; rfl, by rw [show workE fs kiln days (ms.map (·.2.2)) = (szd l.length fs.length fs.length, [], 0) from by unfold workE; rw [List.length_map, if_neg om, hI.short hpl om, if_pos om]]; rfl, (ha.add_nil 22 1).grown (.cons_cons _ nsl)⟩)
   ·have hc2 : ¬ szd l.length fs.length fs.length ≠ 0 := by omega
    refine cod_skip (ex_then (cod_seq (cod_seq (cod_region (lst_move rfl rfl (lst_len rfl rfl Try.underlying22 ?_))))))
    refine lst_move rfl rfl (lst_nil (ex_then (cod_block (cod_loop (G := Nat) (fun j => j <= l.length ∧ badK (l.take j) = false) (fun j => l.length - j) (fun j => (11, .int .i64 (k : Int)) :: (12, .slice lA l.length lc) :: (59, .slice lA l.length lc) :: (60, .int .i64 (l.length : Int)) :: (61, .int .i64 (j : Int)) :: [(2, .pointer (some ⟨b2, 0, none⟩)), (8, .pointer (some ⟨b8, 0, none⟩)), (9, .slice oA mr.length oc), (10, .int .i64 (fires : Int)), (38, .slice (some ⟨pb, po, none⟩) ms.length pc), (39, .int .i64 (ms.length : Int)), (40, .int .i64 (k : Int))]) (fun j => .blk b8 (.cells (V4 z0 z1 z2 zw).toArray 95 (0, 0)) :: .row 22 1 oA mr.length oc (mr.reverse.map mcell) :: .blk b2 (.cells (CA fA fs.length fc kiln dA days.length dc).toArray 77 (0, 0)) :: mr.map mrow) 0 ⟨Nat.zero_le _, rfl⟩ sbn sbl ?_))))
    intro j ⟨hj, hbk⟩
    (try dsimp only at hj hbk ⊢)
    refine cod_seq (cod_region (lst_int rfl rfl rfl bin_lss ?_))
    refine lst_nil (ex_then (cod_seq (cod_cond_dec rfl (fun hc3 => ?_) (fun hc3 => ?_))))
    ·have hj' : j < l.length := by omega
     obtain ⟨lb, lo, rfl, hlb, hlcell⟩ := hin om
     obtain ⟨x, hxj⟩ : ∃ x, l[j]? = some x := ⟨_, List.getElem?_eq_getElem hj'⟩
     refine cod_skip (ex_then (cod_seq (cod_block (cod_seq (cod_region (lst_index (j := j) rfl rfl rfl Try.underlying22 F.ti3 rfl hj' ?_))))))
     refine lst_load_at (v := .int .i64 x) rfl rfl F.one3 (fun a w ha => ha.old (hlcell j _ hxj 0 _ rfl) hlb) ?_
     refine lst_assign rfl rfl (lst_nil (ex_then (cod_seq (cod_region (lst_move rfl rfl (lst_fn0 (v := .bool (btw x (0) (3))) (vs := [_, _, _]) rfl rfl F.ent52 (fun a w ha => within_c (x) (0) (3) w) ?_))))))
     refine lst_not rfl rfl (lst_nil (ex_then (cod_cond_bool rfl (fun hc4 => ?_) (fun hc4 => ?_))))
     ·refine cod_seq (cod_region (lst_assign rfl rfl (lst_assign rfl rfl (lst_assign rfl rfl (lst_nil (ex_then (cod_ret (ex_block_ret (ex_then_ret (ex_then_ret (ex_block_ret (ex_then_ret (ex_block_ret (ex_then_ret (ex_then_ret (ex_block_ret (ex_then_ret ?_)))))))))))))))))
      exact ex_ret rfl (fun a w ha => res_three rfl rfl rfl rfl ha) (fun a w ha => ⟨none, 0, [], by rw [show workE fs kiln days (ms.map (·.2.2)) = (8, [], 0) from by unfold workE; rw [List.length_map, if_neg om, hI.sort hpl hc2 (bad_at hxj (by simpa using hc4)), if_pos om]]; rfl, by rw [show workE fs kiln days (ms.map (·.2.2)) = (8, [], 0) from by unfold workE; rw [List.length_map, if_neg om, hI.sort hpl hc2 (bad_at hxj (by simpa using hc4)), if_pos om]]; rfl, (ha.add_nil 22 1).grown (.cons_cons _ nsl)⟩)
     ·refine cod_skip (ex_block_normal (ex_then (cod_region (lst_int rfl rfl rfl (fun w => bin_add w (wrap_i64' _ om om)) ?_))))
      refine lst_move rfl rfl (lst_nil (ex_round (j + 1) ⟨by omega, bad_take hxj hbk (by simpa using hc4)⟩ tdo sbn sbl))
    ·have hbk2 : badK l = false := by rw [List.take_of_length_le om] at hbk; exact hbk
     have hnl : (natL l).length = l.length := by simp [natL]
     have hszl : l.length = fs.length := by unfold szd at hc2; split at hc2; omega; split at hc2; omega; omega
     have hglen : (natL l).length <= fs.length := by omega
     obtain ⟨hok2, -⟩ := dayE_ok (fs := fs) (kiln := kiln) (m := (⟨[z0, z1, z2], zw⟩ : Mor)) (acts := natL l) (sugar := sugar) hc.ff hI.ok hglen hc.f3
     have htry : ∀ w, RdL Flt.cells 4 w fA fs -> RdL ncell 1 w lA (natL l) -> Calls Try.prog 71 #[.agg (CA fA fs.length fc kiln dA days.length dc).toArray, .agg (V4 z0 z1 z2 zw).toArray, .slice lA l.length lc, .int .i64 (sugar : Int)] w (fun e w' => e = .returned (.tuple #[(dayE fs kiln (⟨[z0, z1, z2], zw⟩ : Mor) (natL l) sugar).2.val, .int .i64 (((dayE fs kiln (⟨[z0, z1, z2], zw⟩ : Mor) (natL l) sugar).1 : Nat) : Int)]) ∧ Grew w w' []) := fun w hF hA => by
      have h9 := try_c fA dA lA fc days.length dc lc kiln fs hc.f3 hc.ff z0 z1 z2 zw hz0 hz1 hz2 hzw (natL l) hglen sugar hxs w hF hA
      rw [hnl] at h9
      exact h9
     have hgd : days.getD k 0 = sugar := by rw [List.getD_eq_getElem?_getD, hsx]; rfl
     have hday := fun h => hI.day (l := l) hpl hc2 hbk2 h
     have hnext := fun h h' => hI.next (l := l) hpl hc2 hbk2 h h'
     rw [hgd] at hday hnext
     generalize dayE fs kiln (⟨[z0, z1, z2], zw⟩ : Mor) (natL l) sugar = st at hok2 htry hday hnext ⊢
     obtain ⟨er, nm⟩ := st
     dsimp only at hok2 htry hday hnext ⊢
     obtain ⟨y0, y1, y2, yw, rfl, hy0, hy1, hy2, hyw⟩ := hok2.form
     have hsf := spF_le (natL l)
     refine cod_exit (ex_then_exit (ex_then_exit (ex_block_exit (ex_then (cod_seq (cod_ghost (G := Nat) (fun _ => True) (fun b16 => (11, .int .i64 (k : Int)) :: (12, .slice lA l.length lc) :: (16, .pointer (some ⟨b16, 0, none⟩)) :: (17, .int .i64 (er : Int)) :: [(2, .pointer (some ⟨b2, 0, none⟩)), (8, .pointer (some ⟨b8, 0, none⟩)), (9, .slice oA mr.length oc), (10, .int .i64 (fires : Int)), (38, .slice (some ⟨pb, po, none⟩) ms.length pc), (39, .int .i64 (ms.length : Int)), (40, .int .i64 (k : Int))]) (fun b16 => .blk b16 (.cells (V4 y0 y1 y2 yw).toArray 95 (0, 0)) :: .blk b8 (.cells (V4 z0 z1 z2 zw).toArray 95 (0, 0)) :: .row 22 1 oA mr.length oc (mr.reverse.map mcell) :: .blk b2 (.cells (CA fA fs.length fc kiln dA days.length dc).toArray 77 (0, 0)) :: mr.map mrow) ?_ ?_))))))
     ·refine any_begin [] F.follows 16 rfl [false, false, false, false, false, false, false, false, false, false, false, false, false, false, false, false] rfl ?_
      refine any_tk 0 rfl rfl rfl (yld_loadN rfl F.agg77 F.ti77) ?_
      refine any_tk 1 rfl rfl rfl (yld_loadN rfl F.agg95 F.ti95) ?_
      refine any_tk 2 rfl rfl rfl (yld_move rfl) ?_
      refine any_tk 3 rfl rfl rfl (yld_field_z rfl F.fi77_0 F.ti27) ?_
      refine any_tk 4 rfl rfl rfl (yld_field_z rfl F.fi27_2 F.ti22) ?_
      refine any_tk 5 rfl rfl rfl (yld_load rfl F.one22) ?_
      refine any_tk 6 rfl rfl rfl (yld_move rfl) ?_
      refine any_tk 7 rfl rfl rfl (yld_index (j := k) (show _ = some (Value.slice (some ⟨db, dbo, none⟩) days.length dc) from by rw [<- hdA]; rfl) rfl Try.underlying22 F.ti3 rfl (show k < days.length by omega)) ?_
      refine any_tk 8 rfl rfl rfl (yld_load_at (v := .int .i64 (sugar : Int)) rfl F.one3 (fun a w ha => rd_cell (by have h := hD.later ha.below; rw [hdA] at h; exact h) hsx)) ?_
      refine any_two 9 13 kr rfl rfl rfl rfl ?_ ?_
      ·refine lst_fn0 (v := .tuple #[.agg (V4 y0 y1 y2 yw).toArray, .int .i64 (er : Int)]) (vs := [_, _, _, _]) rfl rfl F.ent71 (fun a w ha => (htry w (hF.later ha.below) (RdL.nats (hin.later ha.below) hbk2)).mono (fun e w' h => ⟨h.1.trans rfl, h.2⟩)) ?_
       refine lst_nil (anb (any_tk 10 rfl rfl rfl (yld_move rfl) ?_))
       refine any_tk 11 rfl rfl rfl (yld_extract rfl rfl) ?_
       refine any_tk 12 rfl rfl rfl (yld_extract rfl rfl) ?_
       refine an1 13 rfl ?_
       refine lst_alloc rfl F.ti95 ?_
       intro b16
       refine lst_nil (anb (an1 14 rfl ?_))
       refine lst_store rfl rfl F.ti95 rfl ?_
       refine lst_nil (anb (any_tk 15 rfl rfl rfl (yld_assign rfl) ?_))
       refine adn ?_
       exact ex_ghost b16 trivial sbn pkk
      ·refine lst_alloc rfl F.ti95 ?_
       intro b16
       refine lst_nil (anb (an1 9 rfl ?_))
       refine lst_fn0 (v := .tuple #[.agg (V4 y0 y1 y2 yw).toArray, .int .i64 (er : Int)]) (vs := [_, _, _, _]) rfl rfl F.ent71 (fun a w ha => (htry w (hF.later ha.below) (RdL.nats (hin.later ha.below) hbk2)).mono (fun e w' h => ⟨h.1.trans rfl, h.2⟩)) ?_
       refine lst_nil (anb (any_tk 10 rfl rfl rfl (yld_move rfl) ?_))
       refine any_tk 11 rfl rfl rfl (yld_extract rfl rfl) ?_
       refine any_tk 12 rfl rfl rfl (yld_extract rfl rfl) ?_
       refine an1 14 rfl ?_
       refine lst_store rfl rfl F.ti95 rfl ?_
       refine lst_nil (anb (any_tk 15 rfl rfl rfl (yld_assign rfl) ?_))
       refine adn ?_
       exact ex_ghost b16 trivial sbn pkk
     ·rintro b16 -
      (try dsimp only)
      refine ex_then (cod_seq (cod_seq (cod_region (lst_move rfl rfl (lst_int rfl rfl rfl bin_neq ?_)))))
      refine lst_nil (ex_then (cod_cond_dec rfl (fun hc5 => ?_) (fun hc5 => ?_)))
      ·refine cod_seq (cod_region (lst_move rfl rfl (lst_assign rfl rfl (lst_assign rfl rfl (lst_assign rfl rfl (lst_nil (ex_then (cod_ret (ex_then_ret (ex_block_ret (ex_then_ret (ex_then_ret (ex_block_ret (ex_then_ret ?_))))))))))))))
       exact ex_ret rfl (fun a w ha => res_three rfl rfl rfl rfl ha) (fun a w ha => ⟨none, 0, [], by rw [show workE fs kiln days (ms.map (·.2.2)) = (er, [], 0) from by unfold workE; rw [List.length_map, if_neg om, hday om, if_pos om]]; rfl, by rw [show workE fs kiln days (ms.map (·.2.2)) = (er, [], 0) from by unfold workE; rw [List.length_map, if_neg om, hday om, if_pos om]]; rfl, (ha.add_nil 22 1).grown (.cons_cons _ nsl)⟩)
      ·refine cod_skip (ex_then (cod_seq (any_begin [.b b8] F.follows 8 rfl [false, false, false, false, false, false, false, false] rfl ?_)))
       refine any_tk 0 rfl rfl rfl (yld_loadN rfl F.agg95 F.ti95) ?_
       refine any_tk 1 rfl rfl rfl (yld_move rfl) ?_
       refine any_tk 2 rfl rfl rfl (yld_move rfl) ?_
       refine an1 3 rfl ?_
       refine lst_fn0 (v := .agg [.int .i64 ((spF (natL l) : Nat) : Int), .int .i64 ((spW (natL l) : Nat) : Int)].toArray) (vs := [_]) rfl rfl F.ent73 (fun a w ha => by have h9 := spent_c lA lc (natL l) (by have := hc.f3; omega) w (RdL.nats (hin.later ha.below) hbk2); rw [hnl] at h9; exact h9) ?_
       refine lst_nil (anb (any_tk 4 rfl rfl rfl (yld_fieldV (vs := [.int .i64 ((spF (natL l) : Nat) : Int), .int .i64 ((spW (natL l) : Nat) : Int)]) rfl F.fi109_0 F.one3 rfl) ?_))
       refine any_tk 5 rfl rfl rfl (yld_int (v := .int .i64 ((fires + spF (natL l) : Nat) : Int)) rfl rfl (fun w => bin_add w (by rw [wrap_i64' _ om om]; omega))) ?_
       refine an1 6 rfl ?_
       refine lst_store rfl rfl F.ti95 rfl ?_
       refine lst_nil (anb (any_tk 7 rfl rfl rfl (yld_assign rfl) ?_))
       refine adn (ex_then (cod_region (lst_move rfl rfl (lst_loadN rfl rfl F.agg77 F.ti77 ?_))))
       refine lst_loadN rfl rfl F.agg95 F.ti95 ?_
       refine lst_fn (X := Option Addr × Nat) (vs := [_, _]) (p := fun _ => True) (val := fun g => .slice g.1 ([y0, y1, y2].take fs.length).length g.2) (rs := fun g => [mrow (g.1, g.2, [y0, y1, y2].take fs.length)]) rfl rfl F.ent72 (fun a w ha => (list_c fA dA fc days.length dc kiln fs hc.f3 y0 y1 y2 yw w).mono (fun e w' h => by
        obtain ⟨A, c, h1, h2⟩ := h
        have hlt : ([y0, y1, y2].take fs.length).length = fs.length := by have := hc.f3; simp; omega
        exact ⟨(A, c), trivial, by rw [hlt]; exact h1, by unfold mrow; dsimp only; rw [hlt]; exact h2⟩)) ?_
       rintro ⟨A2, c2⟩ -
       dsimp only [List.cons_append, List.nil_append]
       refine lst_lit (vs := [(0, _)]) rfl rfl Try.underlying29 F.ti22 rfl rfl rfl ?_
       intro b95
       refine lst_append rfl rfl rfl Try.underlying29 F.ti22 rfl rfl rfl (by unfold maxLen; omega) om ?_
       intro A3 c3
       refine lst_assign rfl rfl (lst_nil (ex_block_normal (ex_then (cod_region (lst_int rfl rfl rfl (fun w => bin_add w (wrap_i64' _ om om)) ?_)))))
       refine lst_move rfl rfl (lst_nil ?_)
       have hlt : ([y0, y1, y2].take fs.length).length = fs.length := by have := hc.f3; simp; omega
       refine ex_round' ((⟨[y0, y1, y2], yw⟩ : Mor), k + 1, fires + spF (natL l), (A2, c2, [y0, y1, y2].take fs.length) :: mr, A3, c3, out ++ [strs fs ⟨[y0, y1, y2], yw⟩]) ⟨hnext om ⟨rfl, by simp; omega, hyw⟩, by rw [List.reverse_cons, List.map_append, hmr]; rfl, by simp [hml]⟩ tdo (by (try dsimp only); repeat (first | exact Sub.nil _ | refine Sub.cons rfl ?_)) (by (try dsimp only); rw [List.reverse_cons, List.map_append]; repeat (first | exact Pck.nil _ | exact Pck.refl _ | (apply Pck.cons; focus ((repeat (first | exact Rem.here _ | apply Rem.there)); done)) | refine Pck.skip _ ?_))
  ·have hkl : k = (ms.map (·.2.2)).length := by rw [List.length_map]; omega
   have hlast := hI.last hkl
   have hwe : workE fs kiln days (ms.map (·.2.2)) = (0, strs fs (start fs) :: out, fires) := by unfold workE; rw [List.length_map, if_neg om, hlast, if_neg (by simp)]
   refine cod_exit (ex_then_exit (ex_then_exit (ex_block_exit (ex_then (cod_seq (cod_region (lst_move rfl rfl (lst_move rfl rfl (lst_assign rfl rfl (lst_assign rfl rfl (lst_assign rfl rfl (lst_nil (ex_then (cod_ret ?_))))))))))))))
   exact ex_ret rfl (fun a w ha => res_three rfl rfl rfl rfl ha) (fun a w ha => ⟨oA, oc, mr, by rw [hwe]; exact hmr, by rw [hwe]; rfl, ha.grown (.cons _ (.cons_cons _ (.cons _ (List.Sublist.refl _))))⟩)

theorem F.ent51 : Enters Try.prog 51 := enters_of Try.func51 rfl (by kernel_rfl)
theorem Course_c {fA dA pA : Option Addr} {fc dc pc kiln : Nat} {fs : List Flt} {days : List Nat} {ms : List MetaZ} (hc : ChV fs kiln days) (hml0 : ms.length < 1000000) (hms : ∀ m ∈ ms, m.2.2.length < 1000000) (w : World) (hF : RdL Flt.cells 4 w fA fs) (hD : RdL ncell 1 w dA days) (hP : RdZ w pA ms) : Calls Try.prog 17 #[.agg (CA fA fs.length fc kiln dA days.length dc).toArray, .slice pA ms.length pc] w fun e w' => ∃ (oA : Option Addr) (oc : Nat) (mr : List Meta), mr.reverse.map (·.2.2) = (workE fs kiln days (ms.map (·.2.2))).2.1 ∧ e = .returned (.tuple #[.slice oA mr.length oc, .int .i64 (((workE fs kiln days (ms.map (·.2.2))).2.2 : Nat) : Int), .int .i64 (((workE fs kiln days (ms.map (·.2.2))).1 : Nat) : Int)]) ∧ Grew w w' (.row 22 1 oA mr.length oc (mr.reverse.map mcell) :: mr.map mrow) := by
 refine enter (N := 20) [(0, .agg (CA fA fs.length fc kiln dA days.length dc).toArray), (1, .slice pA ms.length pc)] Try.func17 rfl Try.ntmps17 rfl rfl ?_
 refine cod_seq (cod_region (lst_box rfl rfl ?_))
 intro b2
 refine lst_assign rfl rfl (lst_assign rfl rfl (lst_assign rfl rfl (lst_nil (ex_then (cod_seq (cod_seq (cod_region (lst_loadN rfl rfl F.agg27 F.ti27 ?_))))))))
 refine lst_fn0 (v := .int .i64 0) (vs := [_]) rfl rfl F.ent43 (fun a w ha => by
  have h := Check_c (fA := fA) (dA := dA) (fc := fc) (dc := dc) (fs := fs.map Flt.toZ) (kiln := (kiln : Int)) (days := toZs days) (by have := hc.f3; simp; omega) (by have := hc.d4; simp [toZs]; omega) w (RdL.mapped Flt.toZ (hF.later ha.below) (fun _ => rfl)) (RdL.mapped (fun (n : Nat) => (n : Int)) (hD.later ha.below) (fun _ => rfl))
  rw [chk0 hc] at h
  simpa [toZs] using h) ?_
 refine lst_assign rfl rfl (lst_nil (ex_then (cod_seq (cod_region (lst_move rfl rfl (lst_int rfl rfl rfl bin_neq ?_))))))
 refine lst_nil (ex_then (cod_cond_dec rfl (fun hc0 => ?_) (fun hc0 => ?_)))
 ·exact absurd rfl hc0
  done
 ·refine cod_skip (ex_then (cod_seq (cod_region (lst_loadN rfl rfl F.agg27 F.ti27 ?_))))
  refine lst_struct (vs := [(0, _)]) (l' := [_, _, _]) rfl rfl F.ti77 F.pl77 (.cons rfl rfl (.nil _)) rfl ?_
  refine lst_move rfl rfl ?_
  refine lst_fn (X := Option Addr × Nat × List Meta) (vs := [_, _]) (p := fun g => g.2.2.reverse.map (·.2.2) = (workE fs kiln days (ms.map (·.2.2))).2.1) (val := fun g => .tuple #[.slice g.1 g.2.2.length g.2.1, .int .i64 (((workE fs kiln days (ms.map (·.2.2))).2.2 : Nat) : Int), .int .i64 (((workE fs kiln days (ms.map (·.2.2))).1 : Nat) : Int)]) (rs := fun g => .row 22 1 g.1 g.2.2.length g.2.1 (g.2.2.reverse.map mcell) :: g.2.2.map mrow) rfl rfl F.ent51 (fun a w ha => (worked_c hc hml0 hms w (hF.later ha.below) (hD.later ha.below) (hP.later ha.below)).mono (fun e w' h => by
   obtain ⟨oA, oc, mr, h1, h2, h3⟩ := h
   exact ⟨(oA, oc, mr), h1, h2, h3⟩)) ?_
  rintro ⟨oA, oc, mr⟩ hmr
  dsimp only [List.cons_append, List.nil_append] at hmr ⊢
  refine lst_extract rfl rfl rfl (lst_extract rfl rfl rfl (lst_extract rfl rfl rfl (lst_assign rfl rfl (lst_assign rfl rfl (lst_assign rfl rfl (lst_nil (ex_then (cod_ret ?_))))))))
  exact ex_ret rfl (fun a w ha => res_three rfl rfl rfl rfl ha) (fun a w ha => ⟨oA, oc, mr, hmr, rfl, ha.grown (.cons_cons _ (List.sublist_append_left ..))⟩)

end Go.Proofs.Yteppiphdbondeaa.N
namespace Go.Proofs.Yteppiphdbondeaa.N
open Go Go.RowKit Go.Proofs
set_option linter.unusedSectionVars false
def alwF (f day : Nat) (bu : Bool) (d : Nat) (acts : List Nat) : Bool := decide (d ≠ day) || (decide (acts.getD f 0 = 3) == bu)
theorem run_eql_bool {P : Program} {t : TypeId} (ht : P.underlying t = some .bool) (u v : Bool) (x y : Operand) (w : World) : (do eqGuard .eql t x y (.bool u) (.bool v); binOp .eql t (.bool u) (.bool v) : Sem Value).run P w = .ok (.bool (u == v)) w := by
 have hg : (eqGuard .eql t x y (.bool u) (.bool v)).run P w = .ok () w := by simp [eqGuard]
 have hb : (binOp .eql t (.bool u) (.bool v)).run P w = .ok (.bool (u == v)) w := by
  show (do pure (.bool (<- Op.equal t (.bool u) (.bool v))) : Sem Value).run P w = _
  have he : (Op.equal t (.bool u) (.bool v)).run P w = .ok (u == v) w := by
   show (Op.equalIn (9999 + 1) t (.bool u) (.bool v)).run P w = _
   unfold Op.equalIn
   simp only [Sem.run_bind, run_underlying ht, Result.andThen_ok]
   simp
  simp only [Sem.run_bind, he, Result.andThen_ok, Sem.run_pure]
 simp only [Sem.run_bind, hg, Result.andThen_ok, hb]
def firS (fA dA : Option Addr) (fc dc kiln : Nat) (fs : List Flt) (days : List Nat) (f day : Nat) (bu : Bool) (b6 b5 b7 : Nat) : Srch := ⟨fA, dA, fc, dc, kiln, fs, days, 74, 67, [.pointer (some ⟨b6, 0, none⟩), .pointer (some ⟨b5, 0, none⟩), .pointer (some ⟨b7, 0, none⟩)], [], alwF f day bu, fun _ => true⟩
def bstF (fs : List Flt) (kiln : Nat) (days : List Nat) (f day : Nat) (bu : Bool) : Oc := bstO (alwF f day bu) (fun _ => true) fs kiln days days.length (start fs)

theorem cell_lt {w : World} {p : Addr} {v : Value} (h : w.cell? p = some v) : p.block < w.heap.size := by
 rcases Nat.lt_or_ge p.block w.heap.size with h1 | h1
 ·exact h1
 ·unfold World.cell? at h
  rw [Array.getElem?_eq_none h1] at h
  simp at h
def verdO (a b : Oc) : Nat × Nat :=
 if a.is = false ∧ b.is = false then (0, 11)
 else if a.is = false ∨ (b.is = true ∧ b.f < a.f) then (2, 0)
 else if b.is = false ∨ (a.is = true ∧ a.f < b.f) then (1, 0) else (3, 0)
end Go.Proofs.Yteppiphdbondeaa.N
namespace Go.Proofs.Yteppiphdbondeaa.N
open Go Go.RowKit Go.Proofs
set_option linter.unusedSectionVars false
variable [I : Sys]

theorem verdicts_c (k : Nat) (hk : k <= 3) (w : World) : Calls Try.prog 54 #[.int .i64 (k : Int)] w fun e w' => e = .returned (.int .i64 (if k = 3 then 3 else if k = 2 then 1 else 2)) ∧ Grew w w' [] := by
 refine enter (N := 9) [(0, .int .i64 (k : Int))] Try.func54 rfl Try.ntmps54 rfl rfl ?_
 refine cod_seq (cod_region (lst_assign rfl rfl (lst_nil (ex_then (cod_seq (cod_seq (cod_region (lst_move rfl rfl (lst_int (v := .int .i64 (3 - (k : Int))) rfl rfl rfl (fun w => bin_sub w (wrap_i64' _ om om)) ?_)))))))))
 refine lst_nil (ex_then (cod_block (cod_seq (cod_region (lst_int rfl rfl rfl bin_eql ?_)))))
 refine lst_assign rfl rfl (lst_nil (ex_then (cod_cond_dec rfl (fun hc0 => ?_) (fun hc0 => ?_))))
 ·refine cod_seq (cod_region (lst_assign rfl rfl (lst_nil (ex_then (cod_ret (ex_block_ret (ex_then_ret ?_)))))))
  exact ex_ret rfl (fun a w ha => res_one rfl rfl ha) (fun a w ha => ⟨by rw [if_pos om], ha.grown nsl⟩)
 ·refine cod_seq (cod_region (lst_int rfl rfl rfl bin_eql ?_))
  refine lst_assign rfl rfl (lst_nil (ex_then (cod_cond_dec rfl (fun hc1 => ?_) (fun hc1 => ?_))))
  ·refine cod_seq (cod_region (lst_assign rfl rfl (lst_nil (ex_then (cod_ret (ex_block_ret (ex_then_ret ?_)))))))
   exact ex_ret rfl (fun a w ha => res_one rfl rfl ha) (fun a w ha => ⟨by rw [if_neg om, if_pos om], ha.grown nsl⟩)
  ·refine cod_skip (ex_block_normal (ex_then (cod_seq (cod_region (lst_assign rfl rfl (lst_nil (ex_then (cod_ret ?_))))))))
   exact ex_ret rfl (fun a w ha => res_one rfl rfl ha) (fun a w ha => ⟨by rw [if_neg om, if_neg om], ha.grown nsl⟩)

theorem fires1_c {A : Option Addr} {c d f day b5 b6 b7 : Nat} {bu : Bool} {acts : List Nat} (hf : f < acts.length) (hl : acts.length <= 3) (w : World) (hA : RdL ncell 1 w A acts) (h6 : w.cell? ⟨b6, 0, none⟩ = some (.int .i64 (day : Int))) (h5 : w.cell? ⟨b5, 0, none⟩ = some (.int .i64 (f : Int))) (h7 : w.cell? ⟨b7, 0, none⟩ = some (.bool bu)) : Calls Try.prog 74 #[.int .i64 (d : Int), .slice A acts.length c, .pointer (some ⟨b6, 0, none⟩), .pointer (some ⟨b5, 0, none⟩), .pointer (some ⟨b7, 0, none⟩)] w fun e w' => e = .returned (.bool (alwF f day bu d acts)) ∧ Grew w w' [] := by
 obtain ⟨b, o, hA0, hb, hcell⟩ := hA om
 obtain ⟨x, hx⟩ : ∃ x, acts[f]? = some x := ⟨_, List.getElem?_eq_getElem hf⟩
 refine enter (N := 20) [(0, .int .i64 (d : Int)), (1, .slice A acts.length c), (2, .pointer (some ⟨b6, 0, none⟩)), (3, .pointer (some ⟨b5, 0, none⟩)), (4, .pointer (some ⟨b7, 0, none⟩))] Try.func74 rfl Try.ntmps74 rfl rfl ?_
 refine cod_seq (cod_region (lst_assign rfl rfl (lst_nil (ex_then (cod_seq (any_begin [] F.follows 13 rfl [false, false, false, false, false, false, false, false, false, false, false, false, false] rfl ?_))))))
 refine any_tk 0 rfl rfl rfl (yld_move rfl) ?_
 refine any_tk 1 rfl rfl rfl (yld_load_at (v := .int .i64 (day : Int)) rfl F.one3 (fun a w ha => ha.old h6 (cell_lt h6))) ?_
 refine any_tk 2 rfl rfl rfl (yld_int rfl rfl bin_neq) ?_
 refine any_tk 3 rfl rfl rfl (yld_move rfl) ?_
 refine any_split (t := 11) rfl (fun hg11 => ?_) (fun hg11 => ?_)
 ·refine any_take_off 4 rfl rfl rfl rfl rfl kr kr kr sbl rfl ?_
  refine any_take_off 5 rfl rfl rfl rfl rfl kr kr kr sbl rfl ?_
  refine any_take_off 6 rfl rfl rfl rfl rfl kr kr kr sbl rfl ?_
  refine any_take_off 7 rfl rfl rfl rfl rfl kr kr kr sbl rfl ?_
  refine any_take_off 8 rfl rfl rfl rfl rfl kr kr kr sbl rfl ?_
  refine any_take_off 9 rfl rfl rfl rfl rfl kr kr kr sbl rfl ?_
  refine any_take_off 10 rfl rfl rfl rfl rfl kr kr kr sbl rfl ?_
  refine any_tk 11 rfl rfl rfl (yld_pick_true rfl rfl) ?_
  refine any_tk 12 rfl rfl rfl (yld_assign rfl) ?_
  refine adn (ex_then (cod_ret ?_))
  exact ex_ret rfl (fun a w ha => res_one rfl rfl ha) (fun a w ha => ⟨by unfold alwF; rw [show decide (d ≠ day) = true from by simp; omega]; rfl, ha.grown nsl⟩)
 ·refine any_take_on 4 rfl rfl rfl rfl rfl kr kr kr sbl (yld_move rfl) rfl ?_
  refine any_take_on 5 rfl rfl rfl rfl rfl kr kr kr sbl (yld_load_at (v := .int .i64 (f : Int)) rfl F.one3 (fun a w ha => ha.old h5 (cell_lt h5))) rfl ?_
  refine any_take_on 6 rfl rfl rfl rfl rfl kr kr kr sbl (yld_index (j := f) (show _ = some (Value.slice (some ⟨b, o, none⟩) acts.length c) from by rw [<- hA0]; rfl) rfl Try.underlying22 F.ti3 rfl (show f < acts.length by omega)) rfl ?_
  refine any_take_on 7 rfl rfl rfl rfl rfl kr kr kr sbl (yld_load_at (v := .int .i64 (x : Int)) rfl F.one3 (fun a w ha => ha.old (hcell f x hx 0 _ rfl) hb)) rfl ?_
  refine any_take_on 8 rfl rfl rfl rfl rfl kr kr kr sbl (yld_int rfl rfl bin_eql) rfl ?_
  refine any_take_on 9 rfl rfl rfl rfl rfl kr kr kr sbl (yld_load_at (v := .bool bu) rfl F.one4 (fun a w ha => ha.old h7 (cell_lt h7))) rfl ?_
  refine any_take_on 10 rfl rfl rfl rfl rfl kr kr kr sbl (yld_bin rfl rfl (run_eql_bool Try.underlying4 _ _ _ _)) rfl ?_
  refine any_tk 11 rfl rfl rfl (yld_pick_false rfl rfl) ?_
  refine any_tk 12 rfl rfl rfl (yld_assign rfl) ?_
  refine adn (ex_then (cod_ret ?_))
  exact ex_ret rfl (fun a w ha => res_one rfl rfl ha) (fun a w ha => ⟨by unfold alwF; rw [List.getD_eq_getElem?_getD, hx, show decide (d ≠ day) = false from by simp; omega]; simp; rw [show decide ((x : Int) = 3) = decide (x = 3) from by rw [decide_eq_decide]; omega], ha.grown nsl⟩)

theorem fir_ok {fA dA : Option Addr} {fc dc kiln f day b6 b5 b7 : Nat} {bu : Bool} {fs : List Flt} {days : List Nat} (h : ChV fs kiln days) : (firS fA dA fc dc kiln fs days f day bu b6 b5 b7).Ok := ⟨h.f3, h.ff, Nat.le_succ_of_le h.d4, h.dd, enters_of Try.func74 rfl (by kernel_rfl), enters_of Try.func67 rfl (by kernel_rfl)⟩
theorem fir_stays {fA dA : Option Addr} {fc dc kiln f day b6 b5 b7 : Nat} {bu : Bool} {fs : List Flt} {days : List Nat} {w : World} (hc : ChV fs kiln days) (hf : f < fs.length) (hF : RdL Flt.cells 4 w fA fs) (hD : RdL ncell 1 w dA days) :
  Stays w.heap.size w [.blk b6 (.cells [.int .i64 (day : Int)].toArray 3 (0, 0)), .blk b5 (.cells [.int .i64 (f : Int)].toArray 3 (0, 0)), .blk b7 (.cells [.bool bu].toArray 4 (0, 0))] (firS fA dA fc dc kiln fs days f day bu b6 b5 b7).Env := fun _ _ _ _ _ w' hr ha => ⟨hF.later ha.below, hD.later ha.below, fun A c d acts hA hl _ => fires1_c (by have : acts.length = fs.length := hl; omega) (by have : acts.length = fs.length := hl; have := hc.f3; omega) w' hA (cell_of_blk (ha.mem_blk (hr (.blk b6 (.cells [.int .i64 (day : Int)].toArray 3 (0, 0))) (by simp))) rfl) (cell_of_blk (ha.mem_blk (hr (.blk b5 (.cells [.int .i64 (f : Int)].toArray 3 (0, 0))) (by simp))) rfl) (cell_of_blk (ha.mem_blk (hr (.blk b7 (.cells [.bool bu].toArray 4 (0, 0))) (by simp))) rfl), fun m hm => by
  obtain ⟨a, b, c, x, rfl, _⟩ := hm.form
  exact any2_c a b c x w'⟩

set_option maxRecDepth 4000 in
theorem fires_c {fA dA : Option Addr} {fc dc kiln f day : Nat} {fs : List Flt} {days : List Nat} {bu : Bool} (hc : ChV fs kiln days) (hf : f < fs.length) (w : World) (hF : RdL Flt.cells 4 w fA fs) (hD : RdL ncell 1 w dA days) : Calls Try.prog 53 #[.agg (CA fA fs.length fc kiln dA days.length dc).toArray, .int .i64 (f : Int), .int .i64 (day : Int), .bool bu] w fun e w' => e = .returned (.tuple #[.int .i64 (((bstF fs kiln days f day bu).f : Nat) : Int), .bool (bstF fs kiln days f day bu).is]) ∧ Grew w w' [] := by
 have hm0 : MOk (start fs) := startN_ok hc.f3 hc.ff _ (Nat.le_refl _)
 obtain ⟨x0, x1, x2, xw, hx, hx0, hx1, hx2, hxw⟩ := hm0.form
 refine enter (N := 31) [(0, .agg (CA fA fs.length fc kiln dA days.length dc).toArray), (1, .int .i64 (f : Int)), (2, .int .i64 (day : Int)), (3, .bool bu)] Try.func53 rfl Try.ntmps53 rfl rfl ?_
 refine cod_seq (cod_region (lst_box rfl rfl ?_))
 intro b4
 refine lst_box rfl rfl ?_
 intro b5
 refine lst_box rfl rfl ?_
 intro b6
 refine lst_box rfl rfl ?_
 intro b7
 refine lst_assign rfl rfl (lst_assign rfl rfl (lst_nil (ex_then (cod_seq (cod_region (lst_loadN rfl rfl F.agg77 F.ti77 ?_))))))
 refine lst_fn (X := Nat × Nat) (vs := [_]) (p := fun _ => True) (val := fun g => .pointer (some ⟨g.1, 0, none⟩)) (rs := fun g => [.blk g.1 (.cells [.slice fA fs.length fc, .int .i64 (kiln : Int), .slice dA days.length dc, .func (.func 66) [].toArray [].toArray, .func (.func 67) [].toArray [].toArray, .map (some g.2)].toArray 101 (0, 0)), .blk g.2 (KS.obj [])]) rfl rfl F.ent48 (fun a w ha => (any_c fA dA fc days.length dc kiln fs w).mono (fun e w' h => by obtain ⟨b, km, h1, h2⟩ := h; exact ⟨(b, km), trivial, h1, h2⟩)) ?_
 rintro ⟨sb, km⟩ -
 dsimp only [List.cons_append, List.nil_append]
 refine lst_assign rfl rfl (lst_nil (ex_then (cod_seq (cod_region (lst_move rfl rfl (lst_makeFunc (fs := []) (cs := [_, _, _]) rfl rfl rfl ?_))))))
 refine lst_nilCheck rfl rfl (lst_field rfl rfl F.fi101_1 F.ti97 ?_)
 refine lst_store rfl rfl F.ti97 rfl ?_
 refine lst_nil (ex_then (cod_seq (cod_region (lst_move rfl rfl (lst_move rfl rfl (lst_nilCheck rfl rfl (lst_field rfl rfl F.fi101_0 F.ti77 ?_)))))))
 refine lst_loadN (o := 0) (l := (CA fA fs.length fc kiln dA days.length dc)) rfl rfl F.agg77 F.ti77 ?_
 refine lst_fn0 (v := .agg (V4 x0 x1 x2 xw).toArray) (vs := [_]) rfl rfl F.ent60 (fun a w ha => (start_c fA dA fc days.length dc kiln fs hc.f3 hc.ff w (hF.later ha.below)).mono (fun e w' h => ⟨h.1.trans (by rw [hx]; rfl), h.2⟩)) ?_
 refine lst_struct (vs := [(0, _), (1, _)]) (l' := [_, _, _, _, _]) rfl rfl F.ti107 F.pl107 (.cons rfl rfl (.cons rfl rfl (.nil _))) rfl ?_
 refine lst_call (X := List (Spot × Value)) (first := []) (cap := []) (vs := [_, _]) (p := fun _ => True) (val := fun _ => .agg [.int .i64 ((bstF fs kiln days f day bu).f : Int), .int .i64 ((bstF fs kiln days f day bu).w : Int), .bool (bstF fs kiln days f day bu).is].toArray) (rs := fun kn' => [.blk km (KS.obj kn'), .blk sb (.cells [.slice fA fs.length fc, .int .i64 (kiln : Int), .slice dA days.length dc, .func (.func 74) [].toArray [.pointer (some ⟨b6, 0, none⟩), .pointer (some ⟨b5, 0, none⟩), .pointer (some ⟨b7, 0, none⟩)].toArray, .func (.func 67) [].toArray [].toArray, .map (some km)].toArray 101 (0, 0)), .blk b6 (.cells [.int .i64 (day : Int)].toArray 3 (0, 0)), .blk b5 (.cells [.int .i64 (f : Int)].toArray 3 (0, 0)), .blk b7 (.cells [.bool bu].toArray 4 (0, 0)), .blk b4 (.cells (CA fA fs.length fc kiln dA days.length dc).toArray 77 (0, 0))]) rfl rfl rfl F.ent68 (fun a w ha => ?_) ?_
 ·refine (best_c (s := (firS fA dA fc dc kiln fs days f day bu b6 b5 b7)) (fir_ok hc) days.length _ _ ([.blk b6 (.cells [.int .i64 (day : Int)].toArray 3 (0, 0)), .blk b5 (.cells [.int .i64 (f : Int)].toArray 3 (0, 0)), .blk b7 (.cells [.bool bu].toArray 4 (0, 0)), .blk b4 (.cells (CA fA fs.length fc kiln dA days.length dc).toArray 77 (0, 0))]) _ _ _ _ _ [] km sb 0 x0 x1 x2 xw (by show 0 + days.length = days.length; omega) ⟨rfl, by simp; omega, hxw⟩ (KnOk.nil _) ((fir_stays hc hf hF hD).more (fun r hr => by simp at hr ⊢; rcases hr with h | h | h <;> simp [h])) (ha.pck pkk)).mono ?_
  rintro e w' ⟨kn', h1, h2, h3⟩
  exact ⟨kn', trivial, h2.trans (by unfold bstF; rw [hx]; rfl), h3.pck pkk⟩
 rintro kn1 -
 dsimp only
 generalize bstF fs kiln days f day bu = o0
 refine lst_alloc rfl F.ti111 ?_
 intro b11
 refine lst_store rfl rfl F.ti111 rfl ?_
 refine lst_nil (ex_then (cod_seq (any_begin [] F.follows 7 rfl [false, false, false, false, false, false, false] rfl ?_)))
 refine any_tk 0 rfl rfl rfl (yld_field_z rfl F.fi111_0 F.ti109) ?_
 refine any_tk 1 rfl rfl rfl (yld_field_z rfl F.fi109_0 F.ti3) ?_
 refine any_tk 2 rfl rfl rfl (yld_load rfl F.one3) ?_
 refine any_tk 3 rfl rfl rfl (yld_field_z rfl F.fi111_1 F.ti4) ?_
 refine any_tk 4 rfl rfl rfl (yld_load rfl F.one4) ?_
 refine any_tk 5 rfl rfl rfl (yld_assign rfl) ?_
 refine any_tk 6 rfl rfl rfl (yld_assign rfl) ?_
 refine adn (ex_then (cod_ret ?_))
 exact ex_ret rfl (fun a w ha => res_two rfl rfl rfl ha) (fun a w ha => ⟨rfl, ha.grown nsl⟩)

theorem F.ent53 : Enters Try.prog 53 := enters_of Try.func53 rfl (by kernel_rfl)
theorem F.ent54 : Enters Try.prog 54 := enters_of Try.func54 rfl (by kernel_rfl)
theorem Verdict_c {fA dA : Option Addr} {fc dc kiln f day : Nat} {fs : List Flt} {days : List Nat} (hc : ChV fs kiln days) (hf : f < fs.length) (hd : day < days.length) (w : World) (hF : RdL Flt.cells 4 w fA fs) (hD : RdL ncell 1 w dA days) : Calls Try.prog 19 #[.agg (CA fA fs.length fc kiln dA days.length dc).toArray, .int .i64 (f : Int), .int .i64 (day : Int)] w fun e w' => e = .returned (.tuple #[.int .i64 (((verdO (bstF fs kiln days f day true) (bstF fs kiln days f day false)).1 : Nat) : Int), .int .i64 (((verdO (bstF fs kiln days f day true) (bstF fs kiln days f day false)).2 : Nat) : Int)]) ∧ Grew w w' [] := by
 refine enter (N := 85) [(0, .agg (CA fA fs.length fc kiln dA days.length dc).toArray), (1, .int .i64 (f : Int)), (2, .int .i64 (day : Int))] Try.func19 rfl Try.ntmps19 rfl rfl ?_
 refine cod_seq (cod_region (lst_box rfl rfl ?_))
 intro b3
 refine lst_assign rfl rfl (lst_assign rfl rfl (lst_nil (ex_then (cod_seq (cod_seq (cod_region (lst_loadN rfl rfl F.agg27 F.ti27 ?_)))))))
 refine lst_fn0 (v := .int .i64 0) (vs := [_]) rfl rfl F.ent43 (fun a w ha => by
  have h := Check_c (fA := fA) (dA := dA) (fc := fc) (dc := dc) (fs := fs.map Flt.toZ) (kiln := (kiln : Int)) (days := toZs days) (by have := hc.f3; simp; omega) (by have := hc.d4; simp [toZs]; omega) w (RdL.mapped Flt.toZ (hF.later ha.below) (fun _ => rfl)) (RdL.mapped (fun (n : Nat) => (n : Int)) (hD.later ha.below) (fun _ => rfl))
  rw [chk0 hc] at h
  simpa [toZs] using h) ?_
 refine lst_assign rfl rfl (lst_nil (ex_then (cod_seq (cod_region (lst_move rfl rfl (lst_int rfl rfl rfl bin_neq ?_))))))
 refine lst_nil (ex_then (cod_cond_dec rfl (fun hc0 => ?_) (fun hc0 => ?_)))
 ·exact absurd rfl hc0
  done
 ·refine cod_skip (ex_then (cod_seq (cod_seq (cod_region (lst_move rfl rfl (lst_field_z rfl rfl F.fi27_0 F.ti25 ?_))))))
  refine lst_load rfl rfl F.one25 ?_
  refine lst_len rfl rfl Try.underlying25 ?_
  refine lst_int (v := .int .i64 ((fs.length : Int) - 1)) rfl rfl rfl (fun w => bin_sub w (wrap_i64' _ (by have := hc.f3; omega) (by have := hc.f3; omega))) ?_
  refine lst_fn0 (v := .bool true) (vs := [_, _, _]) rfl rfl F.ent52 (fun a w ha => (within_c (f : Int) 0 ((fs.length : Int) - 1) w).mono (fun e w' h => ⟨h.1.trans (by rw [show btw (f : Int) 0 ((fs.length : Int) - 1) = true from by unfold btw; simp; omega]), h.2⟩)) ?_
  refine lst_not rfl rfl (lst_move rfl rfl (lst_on rfl rfl (lst_move rfl rfl (lst_on rfl rfl (lst_field_z rfl rfl F.fi27_2 F.ti22 ?_)))))
  refine lst_on rfl rfl (lst_load rfl rfl F.one22 ?_)
  refine lst_on rfl rfl (lst_len rfl rfl Try.underlying22 ?_)
  refine lst_on rfl rfl (lst_int (v := .int .i64 ((days.length : Int) - 1)) rfl rfl rfl (fun w => bin_sub w (wrap_i64' _ (by have := hc.d4; omega) (by have := hc.d4; omega))) ?_)
  refine lst_on rfl rfl (lst_fn0 (v := .bool true) (vs := [_, _, _]) rfl rfl F.ent52 (fun a w ha => (within_c (day : Int) 0 ((days.length : Int) - 1) w).mono (fun e w' h => ⟨h.1.trans (by rw [show btw (day : Int) 0 ((days.length : Int) - 1) = true from by unfold btw; simp; omega]), h.2⟩)) ?_)
  refine lst_on rfl rfl (lst_not rfl rfl (lst_pick_false rfl rfl rfl (lst_nil (ex_then (cod_cond_false rfl (cod_skip (ex_then (cod_seq (cod_region (lst_loadN rfl rfl F.agg27 F.ti27 ?_))))))))))
  refine lst_struct (vs := [(0, _)]) (l' := [_, _, _]) rfl rfl F.ti77 F.pl77 (.cons rfl rfl (.nil _)) rfl ?_
  refine lst_move rfl rfl (lst_move rfl rfl (lst_fn0 (v := .tuple #[.int .i64 (((bstF fs kiln days f day true).f : Nat) : Int), .bool (bstF fs kiln days f day true).is]) (vs := [_, _, _, _]) rfl rfl F.ent53 (fun a w ha => fires_c (dc := dc) (fc := fc) (bu := true) hc hf w (hF.later ha.below) (hD.later ha.below)) ?_))
  refine lst_move rfl rfl (lst_extract rfl rfl rfl (lst_extract rfl rfl rfl (lst_assign rfl rfl (lst_assign rfl rfl (lst_nil (ex_then (cod_seq (cod_region (lst_loadN rfl rfl F.agg27 F.ti27 ?_)))))))))
  refine lst_struct (vs := [(0, _)]) (l' := [_, _, _]) rfl rfl F.ti77 F.pl77 (.cons rfl rfl (.nil _)) rfl ?_
  refine lst_move rfl rfl (lst_move rfl rfl (lst_fn0 (v := .tuple #[.int .i64 (((bstF fs kiln days f day false).f : Nat) : Int), .bool (bstF fs kiln days f day false).is]) (vs := [_, _, _, _]) rfl rfl F.ent53 (fun a w ha => fires_c (dc := dc) (fc := fc) (bu := false) hc hf w (hF.later ha.below) (hD.later ha.below)) ?_))
  refine lst_move rfl rfl (lst_extract rfl rfl rfl (lst_extract rfl rfl rfl (lst_assign rfl rfl (lst_assign rfl rfl (lst_nil (ex_then (cod_seq (cod_seq ?_))))))))
  generalize (bstF fs kiln days f day true) = o1
  generalize (bstF fs kiln days f day false) = o2
  obtain ⟨f1, w1, i1⟩ := o1
  obtain ⟨f2, w2, i2⟩ := o2
  dsimp only
  rcases i1 with _ | _ <;> rcases i2 with _ | _
  ·refine cod_region (lst_move rfl rfl (lst_not rfl rfl (lst_move rfl rfl (lst_on rfl rfl (lst_move rfl rfl (lst_on rfl rfl (lst_not rfl rfl (lst_pick_true rfl rfl rfl (lst_nil (ex_then (cod_cond_true rfl (cod_seq (cod_region (lst_assign rfl rfl (lst_assign rfl rfl (lst_nil (ex_then (cod_ret (ex_then_ret ?_)))))))))))))))))))
   exact ex_ret rfl (fun a w ha => res_two rfl rfl rfl ha) (fun a w ha => ⟨by rfl, ha.grown nsl⟩)
  ·refine cod_region (lst_move rfl rfl (lst_not rfl rfl (lst_move rfl rfl (lst_on rfl rfl (lst_move rfl rfl (lst_on rfl rfl (lst_not rfl rfl (lst_pick_true rfl rfl rfl (lst_nil (ex_then (cod_cond_false rfl (cod_skip (ex_then (cod_seq (cod_region (lst_assign rfl rfl (lst_nil (ex_then (cod_seq (cod_block (cod_seq (cod_block (cod_seq ?_)))))))))))))))))))))))
   refine cod_block (cod_seq (cod_seq (cod_seq (cod_region (lst_move rfl rfl (lst_not rfl rfl (lst_move rfl rfl (lst_off rfl rfl rfl (lst_off rfl rfl rfl (lst_offu rfl rfl rfl (lst_offu rfl rfl rfl (lst_offu rfl rfl rfl (lst_off rfl rfl rfl (lst_pick_true rfl rfl rfl (lst_assign rfl rfl (lst_nil (ex_then (cod_cond_true rfl (cod_exit (ex_then_exit (ex_then_exit (ex_block_exit (ex_then ?_)))))))))))))))))))))))
   refine cod_region (lst_move rfl rfl (lst_int (v := .int .i64 ((2 : Nat) : Int)) rfl rfl rfl (fun w => bin_sub w (wrap_i64' _ om om)) ?_))
   refine lst_assign rfl rfl (lst_nil (ex_block_normal (ex_then (cod_seq (cod_region (lst_move rfl rfl (lst_int (v := .int .i64 ((1 : Nat) : Int)) rfl rfl rfl (fun w => bin_sub w (wrap_i64' _ om om)) ?_)))))))
   refine lst_assign rfl rfl (lst_nil (ex_then (cod_exit (ex_block_exit (ex_then (cod_seq (cod_region (lst_move rfl rfl (lst_fn0 (v := .int .i64 2) (vs := [_]) rfl rfl F.ent54 (fun a w ha => (verdicts_c 1 om w).mono (fun e w' h => ⟨h.1.trans rfl, h.2⟩)) ?_)))))))))
   refine lst_assign rfl rfl (lst_assign rfl rfl (lst_nil (ex_then (cod_ret ?_))))
   exact ex_ret rfl (fun a w ha => res_two rfl rfl rfl ha) (fun a w ha => ⟨by unfold verdO; simp, ha.grown nsl⟩)
  ·refine cod_region (lst_move rfl rfl (lst_not rfl rfl (lst_move rfl rfl (lst_off rfl rfl rfl (lst_off rfl rfl rfl (lst_pick_false rfl rfl rfl (lst_nil (ex_then (cod_cond_false rfl (cod_skip (ex_then (cod_seq (cod_region (lst_assign rfl rfl (lst_nil (ex_then (cod_seq (cod_block (cod_seq (cod_block (cod_seq (cod_block (cod_seq ?_)))))))))))))))))))))))
   refine cod_seq (cod_seq (cod_region (lst_move rfl rfl (lst_not rfl rfl (lst_move rfl rfl (lst_on rfl rfl (lst_move rfl rfl (lst_on rfl rfl (lst_move rfl rfl (lst_off rfl rfl rfl (lst_off rfl rfl rfl (lst_off rfl rfl rfl (lst_on rfl rfl (lst_pick_false rfl rfl rfl (lst_pick_false rfl rfl rfl (lst_assign rfl rfl (lst_nil (ex_then (cod_cond_false rfl (cod_skip (ex_then (cod_seq (cod_region ?_)))))))))))))))))))))))
   refine lst_move rfl rfl (lst_not rfl rfl (lst_move rfl rfl (lst_off rfl rfl rfl (lst_off rfl rfl rfl (lst_offu rfl rfl rfl (lst_offu rfl rfl rfl (lst_offu rfl rfl rfl (lst_off rfl rfl rfl (lst_pick_true rfl rfl rfl (lst_assign rfl rfl (lst_nil (ex_then (cod_cond_true rfl (cod_exit (ex_then_exit (ex_block_other rfl (ex_then_exit (ex_block_exit (ex_then (cod_seq (cod_region (lst_move rfl rfl (lst_int (v := .int .i64 ((2 : Nat) : Int)) rfl rfl rfl (fun w => bin_sub w (wrap_i64' _ om om)) ?_)))))))))))))))))))))))
   refine lst_assign rfl rfl (lst_nil (ex_then (cod_exit (ex_block_exit (ex_then (cod_seq (cod_region (lst_move rfl rfl (lst_fn0 (v := .int .i64 1) (vs := [_]) rfl rfl F.ent54 (fun a w ha => (verdicts_c 2 om w).mono (fun e w' h => ⟨h.1.trans rfl, h.2⟩)) ?_)))))))))
   refine lst_assign rfl rfl (lst_assign rfl rfl (lst_nil (ex_then (cod_ret ?_))))
   exact ex_ret rfl (fun a w ha => res_two rfl rfl rfl ha) (fun a w ha => ⟨by unfold verdO; simp, ha.grown nsl⟩)
  ·refine cod_region (lst_move rfl rfl (lst_not rfl rfl (lst_move rfl rfl (lst_off rfl rfl rfl (lst_off rfl rfl rfl (lst_pick_false rfl rfl rfl (lst_nil (ex_then (cod_cond_false rfl (cod_skip (ex_then (cod_seq (cod_region (lst_assign rfl rfl (lst_nil (ex_then (cod_seq (cod_block (cod_seq (cod_block (cod_seq (cod_block (cod_seq ?_)))))))))))))))))))))))
   refine cod_seq (cod_seq (cod_region (lst_move rfl rfl (lst_not rfl rfl (lst_move rfl rfl (lst_on rfl rfl (lst_move rfl rfl (lst_on rfl rfl (lst_move rfl rfl (lst_on rfl rfl (lst_move rfl rfl (lst_on rfl rfl (lst_move rfl rfl (lst_on rfl rfl (lst_int rfl rfl rfl bin_lss ?_)))))))))))))))
   refine lst_on rfl rfl (lst_pick_true rfl rfl rfl (lst_pick_false rfl rfl rfl (lst_assign rfl rfl (lst_nil (ex_then (cod_cond_dec rfl (fun hc3 => ?_) (fun hc3 => ?_)))))))
   ·refine cod_exit (ex_then_exit (ex_then_exit (ex_block_exit (ex_then (cod_region (lst_move rfl rfl (lst_int (v := .int .i64 ((2 : Nat) : Int)) rfl rfl rfl (fun w => bin_sub w (wrap_i64' _ om om)) ?_)))))))
    refine lst_assign rfl rfl (lst_nil (ex_block_normal (ex_then (cod_seq (cod_region (lst_move rfl rfl (lst_int (v := .int .i64 ((1 : Nat) : Int)) rfl rfl rfl (fun w => bin_sub w (wrap_i64' _ om om)) ?_)))))))
    refine lst_assign rfl rfl (lst_nil (ex_then (cod_exit (ex_block_exit (ex_then (cod_seq (cod_region (lst_move rfl rfl (lst_fn0 (v := .int .i64 2) (vs := [_]) rfl rfl F.ent54 (fun a w ha => (verdicts_c 1 om w).mono (fun e w' h => ⟨h.1.trans rfl, h.2⟩)) ?_)))))))))
    refine lst_assign rfl rfl (lst_assign rfl rfl (lst_nil (ex_then (cod_ret ?_))))
    exact ex_ret rfl (fun a w ha => res_two rfl rfl rfl ha) (fun a w ha => ⟨by have h : f2 < f1 := om; simp [verdO, h], ha.grown nsl⟩)
   ·refine cod_skip (ex_then (cod_seq (cod_region (lst_move rfl rfl (lst_not rfl rfl (lst_move rfl rfl (lst_on rfl rfl (lst_move rfl rfl (lst_on rfl rfl (lst_move rfl rfl (lst_on rfl rfl (lst_move rfl rfl (lst_on rfl rfl (lst_move rfl rfl (lst_on rfl rfl (lst_int rfl rfl rfl bin_lss ?_))))))))))))))))
    refine lst_on rfl rfl (lst_pick_true rfl rfl rfl (lst_pick_false rfl rfl rfl (lst_assign rfl rfl (lst_nil (ex_then (cod_cond_dec rfl (fun hc4 => ?_) (fun hc4 => ?_)))))))
    ·refine cod_exit (ex_then_exit (ex_block_other rfl (ex_then_exit (ex_block_exit (ex_then (cod_seq (cod_region (lst_move rfl rfl (lst_int (v := .int .i64 ((2 : Nat) : Int)) rfl rfl rfl (fun w => bin_sub w (wrap_i64' _ om om)) ?_)))))))))
     refine lst_assign rfl rfl (lst_nil (ex_then (cod_exit (ex_block_exit (ex_then (cod_seq (cod_region (lst_move rfl rfl (lst_fn0 (v := .int .i64 1) (vs := [_]) rfl rfl F.ent54 (fun a w ha => (verdicts_c 2 om w).mono (fun e w' h => ⟨h.1.trans rfl, h.2⟩)) ?_)))))))))
     refine lst_assign rfl rfl (lst_assign rfl rfl (lst_nil (ex_then (cod_ret ?_))))
     exact ex_ret rfl (fun a w ha => res_two rfl rfl rfl ha) (fun a w ha => ⟨by have h : ¬ f2 < f1 := om; have h2 : f1 < f2 := om; simp [verdO, h, h2], ha.grown nsl⟩)
    ·refine cod_skip (ex_then (cod_exit (ex_block_other rfl (ex_then_exit (ex_block_other rfl (ex_then_exit (ex_block_exit (ex_then (cod_seq (cod_region (lst_move rfl rfl (lst_fn0 (v := .int .i64 3) (vs := [_]) rfl rfl F.ent54 (fun a w ha => (verdicts_c 3 om w).mono (fun e w' h => ⟨h.1.trans rfl, h.2⟩)) ?_))))))))))))
     refine lst_assign rfl rfl (lst_assign rfl rfl (lst_nil (ex_then (cod_ret ?_))))
     exact ex_ret rfl (fun a w ha => res_two rfl rfl rfl ha) (fun a w ha => ⟨by have h : ¬ f2 < f1 := om; have h2 : ¬ f1 < f2 := om; simp [verdO, h, h2], ha.grown nsl⟩)

end Go.Proofs.Yteppiphdbondeaa.N
namespace Go.Proofs.Yteppiphdbondeaa.N
open Go Go.RowKit Go.Proofs
set_option linter.unusedSectionVars false
def agnL (fst m : Mor) : Bool := ((List.range 3).all fun i => decide (fst.s.getD i 0 <= m.s.getD i 0)) && decide (m.w &&& (7 - fst.w) = 0)
theorem andNot8 : ∀ a < 8, ∀ b < 8, IntKind.u8.wrap ((BitVec.ofInt 8 ((a : Nat) : Int) &&& ~~~ BitVec.ofInt 8 ((b : Nat) : Int)).toNat) = ((a &&& (7 - b) : Nat) : Int) := by decide
theorem run_eql_deep {P : Program} {k : TypeId} {m : Nat} (hm : m <= 10000) (hk : P.keyTypeAt m k = true) (hw : (match P.underlying k with | some (.array _ _) | some (.struct _) => true | _ => false) = true) (hgt : P.eqGuardType P.depth k = false)
  (law : WideMaps.KeyLaw P k) {xs ys : Array Value} {a b : Go.Lit} (ha : keyOf P k (.agg xs) = some a) (hb : keyOf P k (.agg ys) = some b) (x y : Operand) (w : World) :
  ∃ r, (do eqGuard .eql k x y (.agg xs) (.agg ys); binOp .eql k (.agg xs) (.agg ys) : Sem Value).run P w = .ok (.bool r) w ∧ (r = true ↔ Value.agg xs = .agg ys) := by
 obtain ⟨r, hr, hiff⟩ := run_equal_deep (P := P) w (m := m) hm (k := k) hk hw ha hb
 have hg : (eqGuard .eql k x y (.agg xs) (.agg ys)).run P w = .ok () w := by
  have hp : (program : Sem Program).run P w = .ok P w := rfl
  simp [eqGuard, Sem.run_bind, hp, hgt]
 have hb' : (binOp .eql k (.agg xs) (.agg ys)).run P w = .ok (.bool r) w := by
  show (do pure (.bool (<- Op.equal k (.agg xs) (.agg ys))) : Sem Value).run P w = _
  simp only [Sem.run_bind, hr, Result.andThen_ok, Sem.run_pure]
 refine ⟨r, by simp only [Sem.run_bind, hg, Result.andThen_ok, hb'], ?_⟩
 rw [hiff]
 constructor
 ·intro e
  exact law.inj (by rw [ha, e]) hb
 ·intro e
  rw [e] at ha
  rw [ha] at hb
  exact Option.some.inj hb
theorem key92 {a b c : Nat} (ha : a < 2 ^ 63) (hb : b < 2 ^ 63) (hc : c < 2 ^ 63) : ∃ x, keyOf Try.prog 92 (.agg [.int .i64 (a : Int), .int .i64 (b : Int), .int .i64 (c : Int)].toArray) = some x := by
 unfold keyOf
 rw [Try.underlying92]
 have hk : Try.prog.keyType 92 = true := by kernel_rfl
 simp only [hk, Bool.true_and]
 have hf : (Value.agg [.int .i64 (a : Int), .int .i64 (b : Int), .int .i64 (c : Int)].toArray).formed Try.prog 92 = true := by simp [Value.formed, Try.underlying92, co92]
 rw [if_pos hf, tszC]
 generalize Try.prog.types.size - 4 = D
 have := kl_three ha hb hc (D + 1 + 1 + 1)
 rw [show (Value.agg [.int .i64 (a : Int), .int .i64 (b : Int), .int .i64 (c : Int)].toArray).cells.toList = [.int .i64 (a : Int), .int .i64 (b : Int), .int .i64 (c : Int)] from rfl, this]
 exact ⟨_, rfl⟩
theorem arrLaw : WideMaps.KeyLaw Try.prog 92 := deep_law (m := 4) (by omega) (by kernel_rfl) (by kernel_rfl) (by rw [Try.underlying92])
theorem run_eql_three {a b c x y z : Nat} (ha : a < 2 ^ 63) (hb : b < 2 ^ 63) (hc : c < 2 ^ 63) (hx : x < 2 ^ 63) (hy : y < 2 ^ 63) (hz : z < 2 ^ 63) (p q : Operand) (w : World) :
  (do eqGuard .eql 92 p q (.agg [.int .i64 (a : Int), .int .i64 (b : Int), .int .i64 (c : Int)].toArray) (.agg [.int .i64 (x : Int), .int .i64 (y : Int), .int .i64 (z : Int)].toArray); binOp .eql 92 (.agg [.int .i64 (a : Int), .int .i64 (b : Int), .int .i64 (c : Int)].toArray) (.agg [.int .i64 (x : Int), .int .i64 (y : Int), .int .i64 (z : Int)].toArray) : Sem Value).run Try.prog w = .ok (.bool (decide (a = x ∧ b = y ∧ c = z))) w := by
 obtain ⟨k1, hk1⟩ := key92 ha hb hc
 obtain ⟨k2, hk2⟩ := key92 hx hy hz
 obtain ⟨r, h1, h2⟩ := run_eql_deep (P := Try.prog) (m := 4) om (k := 92) kr (by rw [Try.underlying92]) kr arrLaw hk1 hk2 p q w
 have e : r = decide (a = x ∧ b = y ∧ c = z) := by
  rw [Bool.eq_iff_iff, h2, decide_eq_true_iff]
  simp
  omega
 rw [<- e]
 exact h1
instance TB.three (f g h : Int) (u : Value) : TB (.agg [.int .i64 f, .int .i64 g, .int .i64 h].toArray) u := TB.agg (by
 intro x hx
 simp at hx
 rcases hx with rfl | rfl | rfl <;> exact .int _ _) u
def agnS (fA dA : Option Addr) (fc dc kiln : Nat) (fs : List Flt) (days : List Nat) (b7 : Nat) : Srch := ⟨fA, dA, fc, dc, kiln, fs, days, 66, 61, [], [.pointer (some ⟨b7, 0, none⟩)], fun _ _ => true, agnL (start fs)⟩
def bstG (fs : List Flt) (kiln : Nat) (days : List Nat) : Oc := (agnS none none 0 0 kiln fs days 0).bst days.length (start fs)
def planG (fs : List Flt) (kiln : Nat) (days : List Nat) : List (List Nat) := (agnS none none 0 0 kiln fs days 0).planL days.length (start fs)
theorem planG_eq {fA dA : Option Addr} {fc dc kiln b7 : Nat} {fs : List Flt} {days : List Nat} : ∀ n m, (agnS fA dA fc dc kiln fs days b7).planL n m = (agnS none none 0 0 kiln fs days 0).planL n m
 | 0, _ => rfl
 | n + 1, _m => congrArg (List.cons _) (planG_eq n _)
theorem agn_eq {x0 x1 x2 xw z0 z1 z2 zw : Nat} (h0 : x0 <= z0) (h1 : x1 <= z1) (h2 : x2 <= z2) : agnL ⟨[x0, x1, x2], xw⟩ ⟨[z0, z1, z2], zw⟩ = decide (((zw &&& (7 - xw) : Nat) : Int) = 0) := by
 unfold agnL
 have : (List.range 3).all (fun i => decide ([x0, x1, x2].getD i 0 <= [z0, z1, z2].getD i 0)) = true := by
  rw [List.all_eq_true]
  intro i hi
  have : i < 3 := List.mem_range.1 hi
  rcases i with _ | _ | _ | i <;> simp <;> omega
 rw [this, Bool.true_and, decide_eq_decide]
 exact (Int.natCast_eq_zero (n := zw &&& (7 - xw))).symm
theorem get_three3 (a b c : Nat) (k : Nat) (hk : k < 3) : [Value.int .i64 (a : Int), .int .i64 (b : Int), .int .i64 (c : Int)][k]? = some (.int .i64 (([a, b, c].getD k 0 : Nat) : Int)) := by
 rcases k with _ | _ | _ | k
 ·rfl
 ·rfl
 ·rfl
 ·omega
theorem agn_no {x0 x1 x2 xw z0 z1 z2 zw k : Nat} (hk : k < 3) (h : [z0, z1, z2].getD k 0 < [x0, x1, x2].getD k 0) : agnL ⟨[x0, x1, x2], xw⟩ ⟨[z0, z1, z2], zw⟩ = false := by
 unfold agnL
 have : (List.range 3).all (fun i => decide ([x0, x1, x2].getD i 0 <= [z0, z1, z2].getD i 0)) = false := by
  rw [List.all_eq_false]
  exact ⟨k, List.mem_range.2 hk, by simpa using h⟩
 rw [this, Bool.false_and]
section
variable [I : Sys] {C : Ctx} {fr : List (Nat × Value)} {hp : List Res} {ops : Array Oper} {Q : Exit -> Act -> World -> Prop} {rest : List Oper} {d : Nat} {ty : TypeId} {pos : String} {after : Array Edge}
theorem lst_index_v1 {x y : Operand} {t e : TypeId} {cs : List Value} {v : Value} {len j m : Nat} {kd : IntKind} {i : Int} {z : Value} (hd : Nat.blt d C.N = true) (hx : ev fr x = some (.agg cs.toArray)) (hy : ev fr y = some (.int kd i))
  (ht : C.P.underlying t = some (.array len e)) (ho : One C.P e) (he : TI C.P e z 1 m) (hi : i = (j : Int)) (hj : j < len) (hv : cs[j]? = some v)
  (k : Lst C ops Q rest ((d, v) :: fr) hp) : Lst C ops Q (⟨some d, .index t x y, ty, pos, after, none⟩ :: rest) fr hp := by
 obtain ⟨i', hi', _, hs, _⟩ := he
 subst hi
 refine lst_value _ hd (fun _ _ _ => tame_indexVal ..) (fun a w ha => ⟨w, ?_, ha⟩) k
 have h1 : (isAgg e).run C.P w = .ok false w := run_isAgg ho.1 ho.2 w
 have h2 : (sizeOf e).run C.P w = .ok 1 w := by simp [sizeOf, typeInfo, hi', hs]
 have h3 : (Instr.index t (.agg cs.toArray) (.int kd (j : Int))).run C.P w = .ok v w := by
  have hb : (0 <= (j : Int) ∧ (j : Int) < (len : Int)) := by omega
  have hv' : cs.toArray[j]? = some v := by simpa using hv
  simp only [Instr.index, asIntOf, Sem.run_bind, Sem.run_pure, Result.andThen_ok, run_underlying ht, if_pos hb, h2, part, h1, Int.toNat_natCast, Nat.mul_one, hv']
  simp
 simp only [execOp, ha.eval hx, ha.eval hy, Sem.run_bind, h3, Result.andThen_ok, Sem.run_pure]
end
end Go.Proofs.Yteppiphdbondeaa.N
namespace Go.Proofs.Yteppiphdbondeaa.N
open Go Go.RowKit Go.Proofs
set_option linter.unusedSectionVars false
variable [I : Sys]
theorem F.agg92 : aggB Try.prog 92 = true := by unfold aggB; rw [Try.underlying92]
theorem again1_c {z0 z1 z2 zw x0 x1 x2 xw b7 : Nat} (hz0 : z0 <= 4) (hz1 : z1 <= 4) (hz2 : z2 <= 4) (hzw : zw < 8) (hx0 : x0 <= 4) (hx1 : x1 <= 4) (hx2 : x2 <= 4) (hxw : xw < 8) (w : World) (hb7 : b7 < w.heap.size) (hc7 : ∀ (j : Nat) (v : Value), (V4 x0 x1 x2 xw)[j]? = some v -> w.cell? ⟨b7, j, none⟩ = some v) : Calls Try.prog 61 #[.agg (V4 z0 z1 z2 zw).toArray, .pointer (some ⟨b7, 0, none⟩)] w fun e w' => e = .returned (.bool (agnL (⟨[x0, x1, x2], xw⟩ : Mor) (⟨[z0, z1, z2], zw⟩ : Mor))) ∧ Grew w w' [] := by
 refine enter (N := 36) [(0, .agg (V4 z0 z1 z2 zw).toArray), (1, .pointer (some ⟨b7, 0, none⟩))] Try.func61 rfl Try.ntmps61 rfl rfl ?_
 refine cod_seq (cod_region (lst_box rfl rfl ?_))
 intro b2
 refine lst_assign rfl rfl (lst_nil (ex_then (cod_seq (cod_seq (cod_region (lst_field_z rfl rfl F.fi95_0 F.ti92 ?_))))))
 refine lst_loadN (o := 0) (l := [.int .i64 (z0 : Int), .int .i64 (z1 : Int), .int .i64 (z2 : Int)]) rfl rfl F.agg92 F.ti92 ?_
 refine lst_field_z rfl rfl F.fi95_0 F.ti92 ?_
 refine lst_loadN_at (l := [.int .i64 (x0 : Int), .int .i64 (x1 : Int), .int .i64 (x2 : Int)]) rfl rfl F.agg92 F.ti92 rfl (fun a w ha j u hu => ha.old (hc7 (0 + j) u (by rcases j with _ | _ | _ | j <;> simp at hu ⊢ <;> exact hu)) hb7) ?_
 refine lst_bin rfl rfl rfl (run_eql_three om om om om om om _ _) ?_
 refine lst_nil (ex_then (cod_cond_dec rfl (fun hc0 => ?_) (fun hc0 => ?_)))
 ·refine cod_seq (cod_region (lst_field_z rfl rfl F.fi95_1 F.ti93 ?_))
  refine lst_load rfl rfl F.one93 ?_
  refine lst_field_z rfl rfl F.fi95_1 F.ti93 ?_
  refine lst_load_at (v := .int .u8 (xw : Int)) rfl rfl F.one93 (fun a w ha => ha.old (hc7 3 _ rfl) hb7) ?_
  refine lst_int (v := .int .u8 ((zw &&& (7 - xw) : Nat) : Int)) rfl rfl rfl (fun w => bin_andNot w (andNot8 zw hzw xw hxw)) ?_
  refine lst_int rfl rfl rfl bin_eql ?_
  refine lst_assign rfl rfl (lst_nil (ex_then (cod_ret (ex_then_ret ?_))))
  exact ex_ret rfl (fun a w ha => res_one rfl rfl ha) (fun a w ha => ⟨by rw [agn_eq om om om], ha.grown nsl⟩)
 ·refine cod_skip (ex_then (cod_seq (cod_seq (cod_region (lst_field_z rfl rfl F.fi95_0 F.ti92 ?_)))))
  refine lst_loadN_at (l := [.int .i64 (x0 : Int), .int .i64 (x1 : Int), .int .i64 (x2 : Int)]) rfl rfl F.agg92 F.ti92 rfl (fun a w ha j u hu => ha.old (hc7 (0 + j) u (by rcases j with _ | _ | _ | j <;> simp at hu ⊢ <;> exact hu)) hb7) ?_
  refine lst_move rfl rfl (lst_nil (ex_then (cod_block (cod_loop (G := Nat) (fun k => k <= 3 ∧ ∀ j, j < k -> [x0, x1, x2].getD j 0 <= [z0, z1, z2].getD j 0) (fun k => 3 - k) (fun k => [(1, .pointer (some ⟨b7, 0, none⟩)), (2, .pointer (some ⟨b2, 0, none⟩)), (18, .agg [.int .i64 (x0 : Int), .int .i64 (x1 : Int), .int .i64 (x2 : Int)].toArray), (19, .int .i64 (k : Int))]) (fun k => [.blk b2 (.cells (V4 z0 z1 z2 zw).toArray 95 (0, 0))]) 0 ⟨Nat.zero_le _, fun j hj => absurd hj (Nat.not_lt_zero _)⟩ sbn sbl ?_))))
  intro k hk
  (try dsimp only at hk ⊢)
  refine cod_seq (cod_region (lst_int rfl rfl rfl bin_lss ?_))
  refine lst_nil (ex_then (cod_seq (cod_cond_dec rfl (fun hc1 => ?_) (fun hc1 => ?_))))
  ·refine cod_skip (ex_then (cod_seq (cod_block (cod_seq (cod_region (lst_move rfl rfl (lst_index_v1 (v := .int .i64 (([x0, x1, x2].getD k 0 : Nat) : Int)) rfl rfl rfl Try.underlying92 F.one3 F.ti3 rfl om (get_three3 x0 x1 x2 k om) ?_)))))))
   refine lst_assign rfl rfl (lst_assign rfl rfl (lst_nil (ex_then (cod_seq (cod_region (lst_move rfl rfl (lst_field_z rfl rfl F.fi95_0 F.ti92 ?_)))))))
   refine lst_index_arr (j := k) rfl rfl rfl Try.underlying92 F.ti3 rfl om ?_
   refine lst_load_at (v := .int .i64 (([z0, z1, z2].getD k 0 : Nat) : Int)) rfl rfl F.one3 (fun a w ha => cell_of_blk (ha.mem_blk (InB.mem (b := b2) (o := .cells (V4 z0 z1 z2 zw).toArray 95 (0, 0)))) (by rw [Nat.zero_add, Nat.mul_one]; exact get_three z0 z1 z2 _ k om)) ?_
   refine lst_move rfl rfl (lst_int rfl rfl rfl bin_lss ?_)
   refine lst_nil (ex_then (cod_cond_dec rfl (fun hc2 => ?_) (fun hc2 => ?_)))
   ·refine cod_seq (cod_region (lst_assign rfl rfl (lst_nil (ex_then (cod_ret (ex_block_ret (ex_then_ret (ex_then_ret (ex_block_ret (ex_then_ret ?_))))))))))
    exact ex_ret rfl (fun a w ha => res_one rfl rfl ha) (fun a w ha => ⟨by rw [agn_no (k := k) om om], ha.grown nsl⟩)
   ·refine cod_skip (ex_block_normal (ex_then (cod_region (lst_int rfl rfl rfl (fun w => bin_add w (wrap_i64' _ om om)) ?_))))
    refine lst_move rfl rfl (lst_nil (ex_round (k + 1) ⟨by omega, fun j hj => ?_⟩ tdo sbn sbl))
    rcases Nat.lt_or_ge j k with h | h
    ·exact hk.2 j h
    ·obtain rfl : j = k := by omega
     omega
  ·refine cod_exit (ex_then_exit (ex_then_exit (ex_block_exit (ex_then (cod_seq (cod_region (lst_field_z rfl rfl F.fi95_1 F.ti93 ?_)))))))
   refine lst_load rfl rfl F.one93 ?_
   refine lst_field_z rfl rfl F.fi95_1 F.ti93 ?_
   refine lst_load_at (v := .int .u8 (xw : Int)) rfl rfl F.one93 (fun a w ha => ha.old (hc7 3 _ rfl) hb7) ?_
   refine lst_int (v := .int .u8 ((zw &&& (7 - xw) : Nat) : Int)) rfl rfl rfl (fun w => bin_andNot w (andNot8 zw hzw xw hxw)) ?_
   refine lst_int rfl rfl rfl bin_eql ?_
   refine lst_assign rfl rfl (lst_nil (ex_then (cod_ret ?_)))
   exact ex_ret rfl (fun a w ha => res_one rfl rfl ha) (fun a w ha => ⟨by rw [agn_eq (by have := hk.2 0 om; simpa using this) (by have := hk.2 1 om; simpa using this) (by have := hk.2 2 om; simpa using this)], ha.grown nsl⟩)

theorem agn_ok {fA dA : Option Addr} {fc dc kiln b7 : Nat} {fs : List Flt} {days : List Nat} (h : ChV fs kiln days) : (agnS fA dA fc dc kiln fs days b7).Ok := ⟨h.f3, h.ff, Nat.le_succ_of_le h.d4, h.dd, enters_of Try.func66 rfl (by kernel_rfl), enters_of Try.func61 rfl (by kernel_rfl)⟩
theorem agn_stays {fA dA : Option Addr} {fc dc kiln b7 x0 x1 x2 xw : Nat} {fs : List Flt} {days : List Nat} {w : World} (hx : start fs = ⟨[x0, x1, x2], xw⟩) (hx0 : x0 <= 4) (hx1 : x1 <= 4) (hx2 : x2 <= 4) (hxw : xw < 8) (hF : RdL Flt.cells 4 w fA fs) (hD : RdL ncell 1 w dA days) :
  Stays w.heap.size w [.blk b7 (.cells (V4 x0 x1 x2 xw).toArray 95 (0, 0))] (agnS fA dA fc dc kiln fs days b7).Env := fun _ _ _ _ _ w' hr ha => ⟨hF.later ha.below, hD.later ha.below, fun A c d acts _ _ _ => any1_c _ A _ c w', fun m hm => by
  obtain ⟨a, b, c, x, rfl, h1, h2, h3, h4⟩ := hm.form
  have hb := ha.mem_blk (hr (.blk b7 (.cells (V4 x0 x1 x2 xw).toArray 95 (0, 0))) (by simp))
  have h9 := again1_c h1 h2 h3 h4 hx0 hx1 hx2 hxw w' (b7 := b7) (Array.getElem?_eq_some_iff.1 hb).1 (fun j v hv => cell_of_blk hb (by simpa using hv))
  rw [<- hx] at h9
  exact h9⟩

set_option maxRecDepth 4000 in
theorem Again_c {fA dA : Option Addr} {fc dc kiln : Nat} {fs : List Flt} {days : List Nat} (hc : ChV fs kiln days) (w : World) (hF : RdL Flt.cells 4 w fA fs) (hD : RdL ncell 1 w dA days) : Calls Try.prog 33 #[.agg (CA fA fs.length fc kiln dA days.length dc).toArray] w fun e w' => ∃ oA oc mr, (((bstG fs kiln days).is = true ∧ mr.reverse.map (·.2.2) = planG fs kiln days ∧ e = .returned (.tuple #[.slice oA mr.length oc, .int .i64 (((bstG fs kiln days).f : Nat) : Int), .int .i64 0])) ∨ ((bstG fs kiln days).is = false ∧ mr = [] ∧ e = .returned (.tuple #[.slice none 0 0, .int .i64 0, .int .i64 11]))) ∧ Grew w w' (.row 22 1 oA mr.length oc (mr.reverse.map mcell) :: mr.map mrow) := by
 have hm0 : MOk (start fs) := startN_ok hc.f3 hc.ff _ (Nat.le_refl _)
 obtain ⟨x0, x1, x2, xw, hx, hx0, hx1, hx2, hxw⟩ := hm0.form
 refine enter (N := 38) [(0, .agg (CA fA fs.length fc kiln dA days.length dc).toArray)] Try.func33 rfl Try.ntmps33 rfl rfl ?_
 refine cod_seq (cod_region (lst_box rfl rfl ?_))
 intro b1
 refine lst_assign rfl rfl (lst_assign rfl rfl (lst_assign rfl rfl (lst_nil (ex_then (cod_seq (cod_seq (cod_region (lst_loadN rfl rfl F.agg27 F.ti27 ?_))))))))
 refine lst_fn0 (v := .int .i64 0) (vs := [_]) rfl rfl F.ent43 (fun a w ha => by
  have h := Check_c (fA := fA) (dA := dA) (fc := fc) (dc := dc) (fs := fs.map Flt.toZ) (kiln := (kiln : Int)) (days := toZs days) (by have := hc.f3; simp; omega) (by have := hc.d4; simp [toZs]; omega) w (RdL.mapped Flt.toZ (hF.later ha.below) (fun _ => rfl)) (RdL.mapped (fun (n : Nat) => (n : Int)) (hD.later ha.below) (fun _ => rfl))
  rw [chk0 hc] at h
  simpa [toZs] using h) ?_
 refine lst_assign rfl rfl (lst_nil (ex_then (cod_seq (cod_region (lst_move rfl rfl (lst_int rfl rfl rfl bin_neq ?_))))))
 refine lst_nil (ex_then (cod_cond_dec rfl (fun hc0 => ?_) (fun hc0 => ?_)))
 ·exact absurd rfl hc0
  done
 ·refine cod_skip (ex_then (cod_seq (cod_region (lst_loadN rfl rfl F.agg27 F.ti27 ?_))))
  refine lst_struct (vs := [(0, _)]) (l' := [_, _, _]) rfl rfl F.ti77 F.pl77 (.cons rfl rfl (.nil _)) rfl ?_
  refine lst_fn (X := Nat × Nat) (vs := [_]) (p := fun _ => True) (val := fun g => .pointer (some ⟨g.1, 0, none⟩)) (rs := fun g => [.blk g.1 (.cells [.slice fA fs.length fc, .int .i64 (kiln : Int), .slice dA days.length dc, .func (.func 66) [].toArray [].toArray, .func (.func 67) [].toArray [].toArray, .map (some g.2)].toArray 101 (0, 0)), .blk g.2 (KS.obj [])]) rfl rfl F.ent48 (fun a w ha => (any_c fA dA fc days.length dc kiln fs w).mono (fun e w' h => by obtain ⟨b, km, h1, h2⟩ := h; exact ⟨(b, km), trivial, h1, h2⟩)) ?_
  rintro ⟨sb, km⟩ -
  dsimp only [List.cons_append, List.nil_append]
  refine lst_assign rfl rfl (lst_nil (ex_then (cod_seq (cod_region (lst_move rfl rfl (lst_nilCheck rfl rfl (lst_field rfl rfl F.fi101_0 F.ti77 ?_)))))))
  refine lst_loadN (o := 0) (l := (CA fA fs.length fc kiln dA days.length dc)) rfl rfl F.agg77 F.ti77 ?_
  refine lst_fn0 (v := .agg (V4 x0 x1 x2 xw).toArray) (vs := [_]) rfl rfl F.ent60 (fun a w ha => (start_c fA dA fc days.length dc kiln fs hc.f3 hc.ff w (hF.later ha.below)).mono (fun e w' h => ⟨h.1.trans (by rw [hx]; rfl), h.2⟩)) ?_
  refine lst_alloc rfl F.ti95 ?_
  intro b7
  refine lst_store rfl rfl F.ti95 rfl ?_
  refine lst_nil (ex_then (cod_seq (cod_region (lst_move rfl rfl (lst_makeFunc (fs := []) (cs := [_]) rfl rfl rfl ?_)))))
  refine lst_nilCheck rfl rfl (lst_field rfl rfl F.fi101_2 F.ti98 ?_)
  refine lst_store rfl rfl F.ti98 rfl ?_
  refine lst_nil (ex_then (cod_seq ?_))
  rcases his : (bstG fs kiln days).is with _ | _
  ·refine cod_region (lst_move rfl rfl (lst_call (X := Option Addr × Nat × List Meta × List (Spot × Value)) (first := []) (cap := []) (vs := [_]) (p := fun g => g.2.2.1 = []) (val := fun g => .tuple #[.slice none 0 0, .int .i64 0, .bool false]) (rs := fun g => .row 22 1 g.1 g.2.2.1.length g.2.1 (g.2.2.1.reverse.map mcell) :: .blk km (KS.obj g.2.2.2) :: .blk sb (.cells [.slice fA fs.length fc, .int .i64 (kiln : Int), .slice dA days.length dc, .func (.func 66) [].toArray [].toArray, .func (.func 61) [].toArray [.pointer (some ⟨b7, 0, none⟩)].toArray, .map (some km)].toArray 101 (0, 0)) :: (g.2.2.1.map mrow ++ [.blk b7 (.cells (V4 x0 x1 x2 xw).toArray 95 (0, 0)), .blk b1 (.cells (CA fA fs.length fc kiln dA days.length dc).toArray 27 (0, 0))])) rfl rfl rfl F.ent49 (fun a w ha => ?_) ?_))
   ·refine (plan_c (s := (agnS fA dA fc dc kiln fs days b7)) (agn_ok hc) (T := [.blk b7 (.cells (V4 x0 x1 x2 xw).toArray 95 (0, 0)), .blk b1 (.cells (CA fA fs.length fc kiln dA days.length dc).toArray 27 (0, 0))]) (km := km) (sb := sb) (KnOk.nil _) ((agn_stays hx hx0 hx1 hx2 hxw hF hD).more (fun r hr => by simp at hr; simp [hr])) (ha.pck pkk)).mono ?_
    rintro e w' ⟨kn', oA, oc, mr, hcase, hk, hA⟩
    rcases hcase with ⟨h1, h2, h3⟩ | ⟨h1, h2, h3⟩
    ·exact absurd (his.symm.trans h1) (by simp)
    ·exact ⟨(oA, oc, mr, kn'), h2, h3, hA⟩
   rintro ⟨oA, oc, mr, kn'⟩ hp
   dsimp only at hp ⊢
   refine lst_move rfl rfl (lst_extract rfl rfl rfl (lst_extract rfl rfl rfl (lst_extract rfl rfl rfl (lst_assign rfl rfl (lst_assign rfl rfl (lst_assign rfl rfl (lst_nil (ex_then (cod_seq (cod_seq (cod_region (lst_move rfl rfl (lst_not rfl rfl (lst_nil (ex_then (cod_cond_true rfl (cod_seq (cod_region (lst_assign rfl rfl (lst_assign rfl rfl (lst_assign rfl rfl (lst_nil (ex_then ?_)))))))))))))))))))))))
   refine cod_ret (ex_then_ret ?_)
   exact ex_ret rfl (fun a w ha => res_three rfl rfl rfl rfl ha) (fun a w ha => ⟨oA, oc, mr, .inr ⟨rfl, hp, rfl⟩, ha.grown (.cons_cons _ (.cons _ (.cons _ (List.sublist_append_left ..))))⟩)
  ·refine cod_region (lst_move rfl rfl (lst_call (X := Option Addr × Nat × List Meta × List (Spot × Value)) (first := []) (cap := []) (vs := [_]) (p := fun g => g.2.2.1.reverse.map (·.2.2) = planG fs kiln days) (val := fun g => .tuple #[.slice g.1 g.2.2.1.length g.2.1, .int .i64 (((bstG fs kiln days).f : Nat) : Int), .bool true]) (rs := fun g => .row 22 1 g.1 g.2.2.1.length g.2.1 (g.2.2.1.reverse.map mcell) :: .blk km (KS.obj g.2.2.2) :: .blk sb (.cells [.slice fA fs.length fc, .int .i64 (kiln : Int), .slice dA days.length dc, .func (.func 66) [].toArray [].toArray, .func (.func 61) [].toArray [.pointer (some ⟨b7, 0, none⟩)].toArray, .map (some km)].toArray 101 (0, 0)) :: (g.2.2.1.map mrow ++ [.blk b7 (.cells (V4 x0 x1 x2 xw).toArray 95 (0, 0)), .blk b1 (.cells (CA fA fs.length fc kiln dA days.length dc).toArray 27 (0, 0))])) rfl rfl rfl F.ent49 (fun a w ha => ?_) ?_))
   ·refine (plan_c (s := (agnS fA dA fc dc kiln fs days b7)) (agn_ok hc) (T := [.blk b7 (.cells (V4 x0 x1 x2 xw).toArray 95 (0, 0)), .blk b1 (.cells (CA fA fs.length fc kiln dA days.length dc).toArray 27 (0, 0))]) (km := km) (sb := sb) (KnOk.nil _) ((agn_stays hx hx0 hx1 hx2 hxw hF hD).more (fun r hr => by simp at hr; simp [hr])) (ha.pck pkk)).mono ?_
    rintro e w' ⟨kn', oA, oc, mr, hcase, hk, hA⟩
    rcases hcase with ⟨h1, h2, h3⟩ | ⟨h1, h2, h3⟩
    ·exact ⟨(oA, oc, mr, kn'), h2.trans (planG_eq _ _), h3, hA⟩
    ·exact absurd (his.symm.trans h1) (by simp)
   rintro ⟨oA, oc, mr, kn'⟩ hp
   dsimp only at hp ⊢
   refine lst_move rfl rfl (lst_extract rfl rfl rfl (lst_extract rfl rfl rfl (lst_extract rfl rfl rfl (lst_assign rfl rfl (lst_assign rfl rfl (lst_assign rfl rfl (lst_nil (ex_then (cod_seq (cod_seq (cod_region (lst_move rfl rfl (lst_not rfl rfl (lst_nil (ex_then (cod_cond_false rfl (cod_skip (ex_then (cod_seq (cod_region (lst_move rfl rfl (lst_move rfl rfl (lst_assign rfl rfl ?_)))))))))))))))))))))))
   refine lst_assign rfl rfl (lst_assign rfl rfl (lst_nil (ex_then (cod_ret ?_))))
   exact ex_ret rfl (fun a w ha => res_three rfl rfl rfl rfl ha) (fun a w ha => ⟨oA, oc, mr, .inl ⟨rfl, hp, rfl⟩, ha.grown (.cons_cons _ (.cons _ (.cons _ (List.sublist_append_left ..))))⟩)

end Go.Proofs.Yteppiphdbondeaa.N
namespace Go.Proofs.Yteppiphdbondeaa.N
open Go Go.RowKit Go.Proofs
set_option linter.unusedSectionVars false
def buyN (fs : List Flt) (kiln : Nat) (days : List Nat) (os : List Flt) : Nat -> Option (Nat × Nat)
 | 0 => none
 | k + 1 => if (bstA (fs ++ [os.getD k default]) kiln days).is = true ∧ (∀ p, buyN fs kiln days os k = some p -> (bstA (fs ++ [os.getD k default]) kiln days).f < p.2) then some (k, (bstA (fs ++ [os.getD k default]) kiln days).f) else buyN fs kiln days os k
def buyI : Option (Nat × Nat) -> Int
 | none => -1
 | some p => p.1
def buyF : Option (Nat × Nat) -> Nat
 | none => 0
 | some p => p.2
theorem buyN_le {fs : List Flt} {kiln : Nat} {days : List Nat} {os : List Flt} : ∀ k p, buyN fs kiln days os k = some p -> p.1 < k
 | 0, p, h => by cases h
 | k + 1, p, h => by
  unfold buyN at h
  split at h
  ·cases h; exact Nat.lt_succ_self _
  ·have := buyN_le k p h; omega
section
variable [I : Sys]
theorem any_stays2 {B : Nat} {w0 : World} {T : List Res} {fA dA : Option Addr} {fc dc kiln : Nat} {fs : List Flt} {days : List Nat} (hF : Stays B w0 T fun w => RdL Flt.cells 4 w fA fs) (hD : Stays B w0 T fun w => RdL ncell 1 w dA days) : Stays B w0 T (anyS fA dA fc dc kiln fs days).Env :=
 fun N ds fr hp a w hr ha => any_env (hF N ds fr hp a w hr ha) (hD N ds fr hp a w hr ha)
theorem stays_oldN {w0 : World} {T : List Res} {fA : Option Addr} {l : List Nat} (hF : RdL ncell 1 w0 fA l) : Stays w0.heap.size w0 T fun w => RdL ncell 1 w fA l := fun _ _ _ _ _ _ _ ha => hF.later ha.below
theorem stays_row {B c n : Nat} {w0 : World} {T : List Res} {fA : Option Addr} {fs : List Flt} (hm : Res.row 49 4 fA n c (fs.flatMap Flt.cells) ∈ T) (hn : fs.length = n) : Stays B w0 T fun w => RdL Flt.cells 4 w fA fs := fun _ _ _ _ _ _ hr ha => row_reads ha (cells := Flt.cells) (e := 49) (c := c) (n := n) (l := fs) (fun _ => rfl) (hr _ hm) hn.symm
end
theorem ChV.more {fs : List Flt} {kiln : Nat} {days : List Nat} {f : Flt} (h : ChV fs kiln days) (h2 : fs.length <= 2) (hf : FltOk f) : ChV (fs ++ [f]) kiln days :=
 ⟨by simp, by simp; omega, fun g hg => by
  rcases List.mem_append.1 hg with hg | hg
  ·exact h.ff g hg
  ·simp at hg; subst hg; exact hf, h.k3, h.d1, h.d4, h.dd⟩
theorem chk_ok {p g n : Nat} {wd : Bool} (h : FltOk ⟨p, g, n, wd⟩) : chkF ⟨(p : Int), (g : Int), (n : Int), wd⟩ = 0 := by
 obtain ⟨a1, a2, a3, a4⟩ := h
 dsimp only at a1 a2 a3 a4
 unfold chkF btw
 rw [if_pos]
 simp
 omega
theorem perm_rot3 {x y z t1 t2 t3 : Res} {M : List Res} : (x :: y :: z :: (M ++ [t1, t2, t3])).Perm (t1 :: t2 :: t3 :: (x :: y :: z :: M)) := List.perm_append_comm (l₁ := x :: y :: z :: M) (l₂ := [t1, t2, t3])
theorem fcells_len (fs : List Flt) : (fs.flatMap Flt.cells).length = fs.length * 4 := by
 induction fs with
 | nil => rfl
 | cons f fs ih => rw [List.flatMap_cons, List.length_append, ih]; simp [Flt.cells]; omega
theorem rd_flat [I : Sys] {w : World} {p : Addr} {fs : List Flt} (h : RdL Flt.cells 4 w (some p) fs) : ∀ j u, (fs.flatMap Flt.cells)[j]? = some u -> w.cell? (p.add j) = some u := fun j u hu => by
 have hj : j < fs.length * 4 := by rw [<- fcells_len]; exact (List.getElem?_eq_some_iff.1 hu).1
 obtain ⟨b, o, h1, _, h3⟩ := h om
 cases h1
 rw [addr_add]
 have key : ∀ (fs : List Flt) (j : Nat) (u : Value), (fs.flatMap Flt.cells)[j]? = some u -> ∃ f, fs[j / 4]? = some f ∧ (Flt.cells f)[j % 4]? = some u := by
  intro fs
  induction fs with
  | nil => intro j u h; simp at h
  | cons f fs ih =>
   intro j u h
   rw [List.flatMap_cons, List.getElem?_append] at h
   split at h
   ·rename_i hl
    have hl4 : j < 4 := hl
    exact ⟨f, by rw [Nat.div_eq_of_lt hl4]; rfl, by rw [Nat.mod_eq_of_lt hl4]; exact h⟩
   ·rename_i hl
    have hl4 : 4 <= j := by simpa [Flt.cells] using hl
    obtain ⟨g, h1, h2⟩ := ih (j - 4) u (by simpa [Flt.cells] using h)
    refine ⟨g, ?_, by rw [show j % 4 = (j - 4) % 4 from by omega]; exact h2⟩
    rw [show j / 4 = (j - 4) / 4 + 1 from by omega]
    simpa using h1
 obtain ⟨f, hf, hc⟩ := key fs j u hu
 have := h3 (j / 4) f hf (j % 4) u hc
 rw [show o + j = o + j / 4 * 4 + j % 4 from by omega]
 exact this
end Go.Proofs.Yteppiphdbondeaa.N
namespace Go.Proofs.Yteppiphdbondeaa.N
open Go Go.RowKit Go.Proofs
set_option linter.unusedSectionVars false
variable [I : Sys]

set_option maxRecDepth 4000 in
theorem Buy_c {fA dA oA : Option Addr} {fc dc oc kiln : Nat} {fs os : List Flt} {days : List Nat} (hc : ChV fs kiln days) (hn2 : fs.length <= 2) (ho : ∀ f ∈ os, FltOk f) (ho3 : os.length <= 3) (hcap : fs.length <= fc) (w : World) (hF : RdL Flt.cells 4 w fA fs) (hD : RdL ncell 1 w dA days) (hO : RdL Flt.cells 4 w oA os) : Calls Try.prog 28 #[.agg (CA fA fs.length fc kiln dA days.length dc).toArray, .slice oA os.length oc] w fun e w' => e = .returned (match buyN fs kiln days os os.length with | none => .tuple #[.int .i64 0, .int .i64 0, .int .i64 11] | some q => .tuple #[.int .i64 (q.1 : Int), .int .i64 (q.2 : Int), .int .i64 0]) ∧ Grew w w' [] := by
 refine enter (N := 89) [(0, .agg (CA fA fs.length fc kiln dA days.length dc).toArray), (1, .slice oA os.length oc)] Try.func28 rfl Try.ntmps28 rfl rfl ?_
 refine cod_seq (cod_region (lst_box rfl rfl ?_))
 intro b2
 refine lst_assign rfl rfl (lst_assign rfl rfl (lst_assign rfl rfl (lst_nil (ex_then (cod_seq (cod_seq (cod_region (lst_loadN rfl rfl F.agg27 F.ti27 ?_))))))))
 refine lst_fn0 (v := .int .i64 0) (vs := [_]) rfl rfl F.ent43 (fun a w ha => by
  have h := Check_c (fA := fA) (dA := dA) (fc := fc) (dc := dc) (fs := fs.map Flt.toZ) (kiln := (kiln : Int)) (days := toZs days) (by have := hc.f3; simp; omega) (by have := hc.d4; simp [toZs]; omega) w (RdL.mapped Flt.toZ (hF.later ha.below) (fun _ => rfl)) (RdL.mapped (fun (n : Nat) => (n : Int)) (hD.later ha.below) (fun _ => rfl))
  rw [chk0 hc] at h
  simpa [toZs] using h) ?_
 refine lst_assign rfl rfl (lst_nil (ex_then (cod_seq (cod_region (lst_move rfl rfl (lst_int rfl rfl rfl bin_neq ?_))))))
 refine lst_nil (ex_then (cod_cond_dec rfl (fun hc0 => ?_) (fun hc0 => ?_)))
 ·exact absurd rfl hc0
  done
 ·refine cod_skip (ex_then (cod_seq (cod_block (cod_seq (cod_region (lst_field_z rfl rfl F.fi27_0 F.ti25 ?_))))))
  refine lst_load rfl rfl F.one25 ?_
  refine lst_len rfl rfl Try.underlying25 ?_
  refine lst_int rfl rfl rfl bin_eql ?_
  refine lst_assign rfl rfl (lst_nil (ex_then (cod_cond_dec rfl (fun hc1 => ?_) (fun hc1 => ?_))))
  ·exact absurd hc1 om
   done
  ·refine cod_seq (cod_region (lst_move rfl rfl (lst_len rfl rfl Try.underlying25 ?_)))
   refine lst_int rfl rfl rfl bin_gtr ?_
   refine lst_assign rfl rfl (lst_nil (ex_then (cod_cond_dec rfl (fun hc2 => ?_) (fun hc2 => ?_))))
   ·exact absurd hc2 om
    done
   ·refine cod_skip (ex_block_normal (ex_then (cod_seq (cod_seq (cod_region (lst_move rfl rfl (lst_len rfl rfl Try.underlying25 ?_)))))))
    refine lst_move rfl rfl (lst_nil (ex_then (cod_block (cod_loop (G := Nat) (fun k => k <= os.length) (fun k => os.length - k) (fun k => [(1, .slice oA os.length oc), (2, .pointer (some ⟨b2, 0, none⟩)), (33, .slice oA os.length oc), (34, .int .i64 (os.length : Int)), (35, .int .i64 (k : Int))]) (fun k => [.blk b2 (.cells (CA fA fs.length fc kiln dA days.length dc).toArray 27 (0, 0))]) 0 (Nat.zero_le _) sbn sbl ?_))))
    intro k hk
    (try dsimp only at hk ⊢)
    refine cod_seq (cod_region (lst_int rfl rfl rfl bin_lss ?_))
    refine lst_nil (ex_then (cod_seq (cod_cond_dec rfl (fun hc3 => ?_) (fun hc3 => ?_))))
    ·have hk' : k < os.length := by omega
     obtain ⟨bf, bo, hoA, hbf, hcf⟩ := hO om
     obtain ⟨f, hx⟩ : ∃ x, os[k]? = some x := ⟨_, List.getElem?_eq_getElem hk'⟩
     have hfok := ho f (List.mem_of_getElem? hx)
     obtain ⟨pw, gn, nw, wd⟩ := f
     refine cod_skip (ex_then (cod_seq (cod_block (cod_seq (cod_region (lst_index (j := k) rfl (show _ = some (Value.slice (some ⟨bf, bo, none⟩) os.length oc) from by rw [<- hoA]; rfl) rfl Try.underlying25 F.ti49 rfl hk' ?_))))))
     refine lst_loadN_at (l := [.int .i64 (pw : Int), .int .i64 (gn : Int), .int .i64 (nw : Int), .bool wd]) rfl rfl F.agg49 F.ti49 rfl (fun a w ha j u hu => ha.old (hcf k _ hx j u hu) hbf) ?_
     refine lst_alloc rfl F.ti49 ?_
     intro b9
     refine lst_store rfl rfl F.ti49 rfl ?_
     refine lst_nil (ex_then (cod_seq (cod_region (lst_loadN rfl rfl F.agg49 F.ti49 ?_))))
     refine lst_fn0 (v := .int .i64 0) (vs := [_]) rfl rfl F.ent59 (fun a w ha => (checkFilter_c (pw : Int) (gn : Int) (nw : Int) wd w).mono (fun e w' h => ⟨h.1.trans (by rw [show chkF ⟨(pw : Int), (gn : Int), (nw : Int), wd⟩ = 0 from chk_ok hfok]; rfl), h.2⟩)) ?_
     refine lst_assign rfl rfl (lst_nil (ex_then (cod_seq (cod_region (lst_move rfl rfl (lst_int rfl rfl rfl bin_neq ?_))))))
     refine lst_nil (ex_then (cod_cond_dec rfl (fun hc4 => ?_) (fun hc4 => ?_)))
     ·exact absurd rfl hc4
      done
     ·refine cod_skip (ex_block_normal (ex_then (cod_region (lst_int rfl rfl rfl (fun w => bin_add w (wrap_i64' _ om om)) ?_))))
      refine lst_move rfl rfl (lst_nil (ex_round (k + 1) om tdo sbn sbl))
    ·refine cod_exit (ex_then_exit (ex_then_exit (ex_block_exit (ex_then (cod_seq (cod_region (lst_assign rfl rfl (lst_assign rfl rfl (lst_nil (ex_then (cod_seq (cod_region (lst_field_z rfl rfl F.fi27_0 F.ti25 ?_)))))))))))))
     refine lst_load rfl rfl F.one25 ?_
     refine lst_assign rfl rfl (lst_nil (ex_then (cod_seq (cod_seq (cod_region (lst_move rfl rfl (lst_len rfl rfl Try.underlying25 ?_)))))))
     refine lst_move rfl rfl (lst_nil (ex_then (cod_block (cod_loop' (G := Nat × Option Addr × Nat × Nat) (fun g => g.1 <= os.length) (fun g => os.length - g.1) (fun g => [(2, .pointer (some ⟨b2, 0, none⟩)), (11, .int .i64 (buyI (buyN fs kiln days os g.1))), (12, .int .i64 ((buyF (buyN fs kiln days os g.1) : Nat) : Int)), (13, .slice fA fs.length fc), (47, .slice oA os.length oc), (48, .int .i64 (os.length : Int)), (49, .int .i64 (g.1 : Int))]) (fun g => [.blk b2 (.cells [.slice g.2.1 g.2.2.1 g.2.2.2, .int .i64 (kiln : Int), .slice dA days.length dc].toArray 27 (0, 0))]) (0, fA, fs.length, fc) (Nat.zero_le _) sbn pkk ?_))))
     rintro ⟨k, X, xn, xc⟩ hkk
     dsimp only at hkk ⊢
     refine cod_seq (cod_region (lst_int rfl rfl rfl bin_lss ?_))
     refine lst_nil (ex_then (cod_seq (cod_cond_dec rfl (fun hc5 => ?_) (fun hc5 => ?_))))
     ·have hk' : k < os.length := by omega
      obtain ⟨bf, bo, hoA, hbf, hcf⟩ := hO om
      obtain ⟨f, hx⟩ : ∃ x, os[k]? = some x := ⟨_, List.getElem?_eq_getElem hk'⟩
      have hfok := ho f (List.mem_of_getElem? hx)
      obtain ⟨pw, gn, nw, wd⟩ := f
      have hgd : os.getD k default = (⟨pw, gn, nw, wd⟩ : Flt) := by rw [List.getD_eq_getElem?_getD, hx]; rfl
      have hsucc : buyN fs kiln days os (k + 1) = if (bstA (fs ++ [(⟨pw, gn, nw, wd⟩ : Flt)]) kiln days).is = true ∧ (∀ p, buyN fs kiln days os k = some p -> (bstA (fs ++ [(⟨pw, gn, nw, wd⟩ : Flt)]) kiln days).f < p.2) then some (k, (bstA (fs ++ [(⟨pw, gn, nw, wd⟩ : Flt)]) kiln days).f) else buyN fs kiln days os k := by rw [<- hgd]; rfl
      have hbf2 := (anyS none none 0 0 kiln (fs ++ [(⟨pw, gn, nw, wd⟩ : Flt)]) days).bst_le (any_ok (hc.more hn2 hfok)) days.length (start (fs ++ [(⟨pw, gn, nw, wd⟩ : Flt)]))
      refine cod_skip (ex_then (cod_seq (cod_block (cod_seq (cod_region (lst_move rfl rfl (lst_index (j := k) rfl (show _ = some (Value.slice (some ⟨bf, bo, none⟩) os.length oc) from by rw [<- hoA]; rfl) rfl Try.underlying25 F.ti49 rfl hk' ?_)))))))
      refine lst_loadN_at (l := [.int .i64 (pw : Int), .int .i64 (gn : Int), .int .i64 (nw : Int), .bool wd]) rfl rfl F.agg49 F.ti49 rfl (fun a w ha j u hu => ha.old (hcf k _ hx j u hu) hbf) ?_
      refine lst_alloc rfl F.ti49 ?_
      intro b15
      refine lst_assign rfl rfl (lst_store rfl rfl F.ti49 rfl ?_)
      refine lst_nil (ex_then (cod_seq (any_begin [.b b2] F.follows 11 rfl [false, false, false, false, false, false, false, false, false, false, false] rfl ?_)))
      refine any_tk 0 rfl rfl rfl (yld_move rfl) ?_
      refine any_tk 1 rfl rfl rfl (yld_move rfl) ?_
      refine any_tk 2 rfl rfl rfl (yld_len rfl Try.underlying25) ?_
      refine any_tk 3 rfl rfl rfl (yld_move rfl) ?_
      refine any_tk 4 rfl rfl rfl (yld_len rfl Try.underlying25) ?_
      refine any_tk 5 rfl rfl rfl (yld_slice_to (k := fs.length) rfl rfl rfl Try.underlying25 F.ti49 hcap) ?_
      refine any_tk 6 rfl rfl rfl (yld_loadN rfl F.agg49 F.ti49) ?_
      refine an1 7 rfl ?_
      refine lst_litN (vs := [(0, .agg ([.int .i64 (pw : Int), .int .i64 (gn : Int), .int .i64 (nw : Int), .bool wd] : List Value).toArray)]) [.int .i64 (pw : Int), .int .i64 (gn : Int), .int .i64 (nw : Int), .bool wd] rfl rfl Try.underlying25 F.ti49 rfl rfl rfl (Lit.agg (l1 := [.int .i64 (pw : Int), .int .i64 (gn : Int), .int .i64 (nw : Int), .bool wd]) (l := []) rfl rfl) ?_
      intro b61
      refine lst_nil (anb (an1 8 rfl ?_))
      refine lst_append_copy (olds := fs.flatMap Flt.cells) (news := [.int .i64 (pw : Int), .int .i64 (gn : Int), .int .i64 (nw : Int), .bool wd]) rfl rfl rfl Try.underlying25 F.ti49 rfl rfl rfl Nat.one_pos (fun h => by obtain ⟨b', o', e, _⟩ := hF hc.f1; rw [e] at h; cases h) (fcells_len fs) (fun a w ha p' hp' j u hu => ?_) (by unfold maxLen; omega) om ?_
      ·subst hp'
       exact rd_flat (hF.later ha.below) j u hu
      intro A1 c1
      refine lst_nil (anb (any_tk 9 rfl rfl rfl (yld_field_z rfl F.fi27_0 F.ti25) ?_))
      refine an1 10 rfl ?_
      refine lst_store rfl rfl F.ti25 rfl ?_
      refine lst_nil (anb (adn (ex_then (cod_seq ?_))))
      rcases his : (bstA (fs ++ [(⟨pw, gn, nw, wd⟩ : Flt)]) kiln days).is with _ | _
      ·refine cod_region (lst_loadN rfl rfl F.agg27 F.ti27 ?_)
       refine lst_struct (vs := [(0, _)]) (l' := [_, _, _]) rfl rfl F.ti77 F.pl77 (.cons rfl rfl (.nil _)) rfl ?_
       refine lst_fn (X := Nat × Nat) (vs := [_]) (p := fun _ => True) (val := fun g => .pointer (some ⟨g.1, 0, none⟩)) (rs := fun g => [.blk g.1 (.cells [.slice A1 (fs.length + 1) c1, .int .i64 (kiln : Int), .slice dA days.length dc, .func (.func 66) [].toArray [].toArray, .func (.func 67) [].toArray [].toArray, .map (some g.2)].toArray 101 (0, 0)), .blk g.2 (KS.obj [])]) rfl rfl F.ent48 (fun a w ha => by
        have h9 := any_c A1 dA c1 days.length dc kiln (fs ++ [(⟨pw, gn, nw, wd⟩ : Flt)]) w
        rw [show (fs ++ [(⟨pw, gn, nw, wd⟩ : Flt)]).length = fs.length + 1 from by simp] at h9
        exact h9.mono (fun e w' h => by obtain ⟨b, km, h1, h2⟩ := h; exact ⟨(b, km), trivial, h1, h2⟩)) ?_
       rintro ⟨sb, km⟩ -
       dsimp only [List.cons_append, List.nil_append]
       have hfl : (fs ++ [(⟨pw, gn, nw, wd⟩ : Flt)]).length = fs.length + 1 := by simp
       refine lst_call (X := Option Addr × Nat × List Meta × List (Spot × Value)) (first := []) (cap := []) (vs := [_]) (p := fun _ => True) (val := fun g => .tuple #[.slice none 0 0, .int .i64 0, .bool false]) (rs := fun g => .row 49 4 A1 (fs.length + 1) c1 (fs.flatMap Flt.cells ++ [.int .i64 (pw : Int), .int .i64 (gn : Int), .int .i64 (nw : Int), .bool wd]) :: .blk b15 (.cells [.int .i64 (pw : Int), .int .i64 (gn : Int), .int .i64 (nw : Int), .bool wd].toArray 49 (0, 0)) :: .blk b2 (.cells [.slice A1 (fs.length + 1) c1, .int .i64 (kiln : Int), .slice dA days.length dc].toArray 27 (0, 0)) :: (.row 22 1 g.1 g.2.2.1.length g.2.1 (g.2.2.1.reverse.map mcell) :: .blk km (KS.obj g.2.2.2) :: .blk sb (.cells [.slice A1 (fs.length + 1) c1, .int .i64 (kiln : Int), .slice dA days.length dc, .func (.func 66) [].toArray [].toArray, .func (.func 67) [].toArray [].toArray, .map (some km)].toArray 101 (0, 0)) :: g.2.2.1.map mrow)) rfl rfl rfl F.ent49 (fun a w ha => ?_) ?_
       ·have h9 := plan_c (s := (anyS A1 dA c1 dc kiln (fs ++ [(⟨pw, gn, nw, wd⟩ : Flt)]) days)) (any_ok (hc.more hn2 hfok)) (T := [.row 49 4 A1 (fs.length + 1) c1 (fs.flatMap Flt.cells ++ [.int .i64 (pw : Int), .int .i64 (gn : Int), .int .i64 (nw : Int), .bool wd]), .blk b15 (.cells [.int .i64 (pw : Int), .int .i64 (gn : Int), .int .i64 (nw : Int), .bool wd].toArray 49 (0, 0)), .blk b2 (.cells [.slice A1 (fs.length + 1) c1, .int .i64 (kiln : Int), .slice dA days.length dc].toArray 27 (0, 0))]) (km := km) (sb := sb) (KnOk.nil _) (any_stays2 (stays_row (n := fs.length + 1) (c := c1) (by rw [List.flatMap_append]; exact List.mem_cons_self ..) hfl) (stays_oldN hD)) (by unfold Srch.cells anyS; rw [hfl]; exact ha.pck pkk)
        refine h9.mono ?_
        rintro e w' ⟨kn', oA', oc', mr, hcase, hk, hA⟩
        unfold Srch.cells anyS at hA
        rw [hfl] at hA
        have hB := hA.permed perm_rot3
        rcases hcase with ⟨h1, h2, h3⟩ | ⟨h1, h2, h3⟩
        ·exact absurd (his.symm.trans h1) (by simp)
        ·exact ⟨(oA', oc', mr, kn'), trivial, h3, hB⟩
       rintro ⟨oA', oc', mr, kn'⟩ hp
       dsimp only at hp ⊢
       refine lst_move rfl rfl (lst_extract rfl rfl rfl (lst_extract rfl rfl rfl (lst_extract rfl rfl rfl (lst_assign rfl rfl (lst_assign rfl rfl (lst_assign rfl rfl (lst_nil (ex_then (cod_seq (cod_region (lst_move rfl rfl (lst_move rfl rfl (lst_off rfl rfl rfl (lst_off rfl rfl rfl (lst_off rfl rfl rfl (lst_offu rfl rfl rfl (lst_offu rfl rfl rfl (lst_offu rfl rfl rfl (lst_off rfl rfl rfl (lst_pick_false rfl rfl rfl (lst_nil (ex_then (cod_cond_false rfl ?_)))))))))))))))))))))))
       refine cod_skip (ex_block_normal (ex_then (cod_region (lst_int rfl rfl rfl (fun w => bin_add w (wrap_i64' _ om om)) ?_))))
       refine lst_move rfl rfl (lst_nil (ex_round' (k + 1, A1, fs.length + 1, c1) tdo tdo (by (try dsimp only); rw [hsucc, if_neg (by rw [his]; simp)]; repeat (first | exact Sub.nil _ | refine Sub.cons rfl ?_)) pkk))
      ·refine cod_region (lst_loadN rfl rfl F.agg27 F.ti27 ?_)
       refine lst_struct (vs := [(0, _)]) (l' := [_, _, _]) rfl rfl F.ti77 F.pl77 (.cons rfl rfl (.nil _)) rfl ?_
       refine lst_fn (X := Nat × Nat) (vs := [_]) (p := fun _ => True) (val := fun g => .pointer (some ⟨g.1, 0, none⟩)) (rs := fun g => [.blk g.1 (.cells [.slice A1 (fs.length + 1) c1, .int .i64 (kiln : Int), .slice dA days.length dc, .func (.func 66) [].toArray [].toArray, .func (.func 67) [].toArray [].toArray, .map (some g.2)].toArray 101 (0, 0)), .blk g.2 (KS.obj [])]) rfl rfl F.ent48 (fun a w ha => by
        have h9 := any_c A1 dA c1 days.length dc kiln (fs ++ [(⟨pw, gn, nw, wd⟩ : Flt)]) w
        rw [show (fs ++ [(⟨pw, gn, nw, wd⟩ : Flt)]).length = fs.length + 1 from by simp] at h9
        exact h9.mono (fun e w' h => by obtain ⟨b, km, h1, h2⟩ := h; exact ⟨(b, km), trivial, h1, h2⟩)) ?_
       rintro ⟨sb, km⟩ -
       dsimp only [List.cons_append, List.nil_append]
       have hfl : (fs ++ [(⟨pw, gn, nw, wd⟩ : Flt)]).length = fs.length + 1 := by simp
       refine lst_call (X := Option Addr × Nat × List Meta × List (Spot × Value)) (first := []) (cap := []) (vs := [_]) (p := fun _ => True) (val := fun g => .tuple #[.slice g.1 g.2.2.1.length g.2.1, .int .i64 (((bstA (fs ++ [(⟨pw, gn, nw, wd⟩ : Flt)]) kiln days).f : Nat) : Int), .bool true]) (rs := fun g => .row 49 4 A1 (fs.length + 1) c1 (fs.flatMap Flt.cells ++ [.int .i64 (pw : Int), .int .i64 (gn : Int), .int .i64 (nw : Int), .bool wd]) :: .blk b15 (.cells [.int .i64 (pw : Int), .int .i64 (gn : Int), .int .i64 (nw : Int), .bool wd].toArray 49 (0, 0)) :: .blk b2 (.cells [.slice A1 (fs.length + 1) c1, .int .i64 (kiln : Int), .slice dA days.length dc].toArray 27 (0, 0)) :: (.row 22 1 g.1 g.2.2.1.length g.2.1 (g.2.2.1.reverse.map mcell) :: .blk km (KS.obj g.2.2.2) :: .blk sb (.cells [.slice A1 (fs.length + 1) c1, .int .i64 (kiln : Int), .slice dA days.length dc, .func (.func 66) [].toArray [].toArray, .func (.func 67) [].toArray [].toArray, .map (some km)].toArray 101 (0, 0)) :: g.2.2.1.map mrow)) rfl rfl rfl F.ent49 (fun a w ha => ?_) ?_
       ·have h9 := plan_c (s := (anyS A1 dA c1 dc kiln (fs ++ [(⟨pw, gn, nw, wd⟩ : Flt)]) days)) (any_ok (hc.more hn2 hfok)) (T := [.row 49 4 A1 (fs.length + 1) c1 (fs.flatMap Flt.cells ++ [.int .i64 (pw : Int), .int .i64 (gn : Int), .int .i64 (nw : Int), .bool wd]), .blk b15 (.cells [.int .i64 (pw : Int), .int .i64 (gn : Int), .int .i64 (nw : Int), .bool wd].toArray 49 (0, 0)), .blk b2 (.cells [.slice A1 (fs.length + 1) c1, .int .i64 (kiln : Int), .slice dA days.length dc].toArray 27 (0, 0))]) (km := km) (sb := sb) (KnOk.nil _) (any_stays2 (stays_row (n := fs.length + 1) (c := c1) (by rw [List.flatMap_append]; exact List.mem_cons_self ..) hfl) (stays_oldN hD)) (by unfold Srch.cells anyS; rw [hfl]; exact ha.pck pkk)
        refine h9.mono ?_
        rintro e w' ⟨kn', oA', oc', mr, hcase, hk, hA⟩
        unfold Srch.cells anyS at hA
        rw [hfl] at hA
        have hB := hA.permed perm_rot3
        rcases hcase with ⟨h1, h2, h3⟩ | ⟨h1, h2, h3⟩
        ·exact ⟨(oA', oc', mr, kn'), trivial, h3, hB⟩
        ·exact absurd (his.symm.trans h1) (by simp)
       rintro ⟨oA', oc', mr, kn'⟩ hp
       dsimp only at hp ⊢
       refine lst_move rfl rfl (lst_extract rfl rfl rfl (lst_extract rfl rfl rfl (lst_extract rfl rfl rfl (lst_assign rfl rfl (lst_assign rfl rfl (lst_assign rfl rfl (lst_nil (ex_then (cod_seq ?_)))))))))
       have hif := hsucc
       have hle2 := buyN_le (fs := fs) (kiln := kiln) (days := days) (os := os) k
       rcases hbn : buyN fs kiln days os k with _ | ⟨bi, bfr⟩
       ·refine cod_region (lst_move rfl rfl (lst_move rfl rfl (lst_on rfl rfl (lst_move rfl rfl (lst_on rfl rfl (lst_int rfl rfl rfl bin_lss ?_))))))
        refine lst_on rfl rfl (lst_move rfl rfl (lst_off rfl rfl rfl (lst_off rfl rfl rfl (lst_off rfl rfl rfl (lst_on rfl rfl (lst_pick_true rfl rfl rfl (lst_pick_true rfl rfl rfl (lst_nil (ex_then (cod_cond_true rfl (cod_region (lst_move rfl rfl (lst_move rfl rfl (lst_assign rfl rfl (lst_assign rfl rfl (lst_nil (ex_block_normal (ex_then (cod_region (lst_int rfl rfl rfl (fun w => bin_add w (wrap_i64' _ om om)) ?_))))))))))))))))))))
        refine lst_move rfl rfl (lst_nil (ex_round' (k + 1, A1, fs.length + 1, c1) tdo tdo (by (try dsimp only); rw [hsucc, if_pos ⟨his, fun p hp => by rw [hbn] at hp; cases hp⟩]; repeat (first | exact Sub.nil _ | refine Sub.cons rfl ?_)) pkk))
       ·refine cod_region (lst_move rfl rfl (lst_move rfl rfl (lst_on rfl rfl (lst_move rfl rfl (lst_on rfl rfl (lst_int (v := .bool false) rfl rfl rfl (fun w => by rw [bin_lss]; rw [show decide (buyI (some (bi, bfr)) < 0) = false from decide_eq_false (by dsimp only [buyI]; omega)]) ?_))))))
        refine lst_on rfl rfl (lst_move rfl rfl (lst_on rfl rfl (lst_move rfl rfl (lst_on rfl rfl (lst_move rfl rfl (lst_on rfl rfl (lst_int rfl rfl rfl bin_lss ?_)))))))
        refine lst_on rfl rfl (lst_pick_false rfl rfl rfl (lst_pick_true rfl rfl rfl (lst_nil (ex_then (cod_cond_dec rfl (fun hc6 => ?_) (fun hc6 => ?_))))))
        ·dsimp only [buyF] at hc6
         refine cod_region (lst_move rfl rfl (lst_move rfl rfl (lst_assign rfl rfl (lst_assign rfl rfl (lst_nil (ex_block_normal (ex_then (cod_region (lst_int rfl rfl rfl (fun w => bin_add w (wrap_i64' _ om om)) ?_)))))))))
         refine lst_move rfl rfl (lst_nil (ex_round' (k + 1, A1, fs.length + 1, c1) tdo tdo (by (try dsimp only); rw [hsucc, if_pos ⟨his, fun p hp => by rw [hbn] at hp; cases hp; omega⟩]; repeat (first | exact Sub.nil _ | refine Sub.cons rfl ?_)) pkk))
        ·dsimp only [buyF] at hc6
         refine cod_skip (ex_block_normal (ex_then (cod_region (lst_int rfl rfl rfl (fun w => bin_add w (wrap_i64' _ om om)) ?_))))
         refine lst_move rfl rfl (lst_nil (ex_round' (k + 1, A1, fs.length + 1, c1) tdo tdo (by (try dsimp only); rw [hsucc, if_neg (by rintro ⟨_, h⟩; have := h _ hbn; omega), hbn]; repeat (first | exact Sub.nil _ | refine Sub.cons rfl ?_)) pkk))
     ·obtain rfl : k = os.length := by omega
      refine cod_exit (ex_then_exit (ex_then_exit (ex_block_exit (ex_then (cod_seq (cod_seq ?_))))))
      rcases hbn : buyN fs kiln days os os.length with _ | ⟨bi, bfr⟩
      ·refine cod_region (lst_move rfl rfl (lst_int rfl rfl rfl bin_lss ?_))
       refine lst_nil (ex_then (cod_cond_true rfl (cod_seq (cod_region (lst_assign rfl rfl (lst_assign rfl rfl (lst_assign rfl rfl (lst_nil (ex_then (cod_ret (ex_then_ret ?_)))))))))))
       exact ex_ret rfl (fun a w ha => res_three rfl rfl rfl rfl ha) (fun a w ha => ⟨by rfl, ha.grown nsl⟩)
      ·refine cod_region (lst_move rfl rfl (lst_int (v := .bool false) rfl rfl rfl (fun w => by rw [bin_lss]; rw [show decide (buyI (some (bi, bfr)) < 0) = false from decide_eq_false (by dsimp only [buyI]; omega)]) ?_))
       refine lst_nil (ex_then (cod_cond_false rfl (cod_skip (ex_then (cod_seq (cod_region (lst_move rfl rfl (lst_move rfl rfl (lst_assign rfl rfl (lst_assign rfl rfl (lst_assign rfl rfl (lst_nil (ex_then (cod_ret ?_))))))))))))))
       exact ex_ret rfl (fun a w ha => res_three rfl rfl rfl rfl ha) (fun a w ha => ⟨by rfl, ha.grown nsl⟩)

end Go.Proofs.Yteppiphdbondeaa.N
namespace Go.Proofs.Yteppiphdbondeaa.N
open Go Go.RowKit Go.Proofs
set_option linter.unusedSectionVars false
def hfs : List Flt := [⟨3, 1, 3, false⟩, ⟨2, 1, 1, false⟩]
def hds : List Nat := [3, 2, 3]
def tfs : List Flt := [⟨2, 1, 1, false⟩, ⟨2, 1, 1, false⟩]
def tds : List Nat := [1, 1]
def jbs : List (List Nat) := [[0, 2], [3, 0], [0, 0]]
def ofs : List Flt := [⟨2, 0, 2, false⟩]
theorem ex_fewest : bstA hfs 1 hds = ⟨1, 1, true⟩ := by kernel_rfl
theorem ex_plan : planA hfs 1 hds = jbs := by kernel_rfl
theorem ex_again : bstG tfs 1 tds = ⟨2, 0, true⟩ := by kernel_rfl
theorem ex_aplan : planG tfs 1 tds = [[0, 3], [3, 0]] := by kernel_rfl
theorem ex_buy : buyN hfs 0 hds ofs 1 = some (0, 0) := by kernel_rfl
theorem ex_verd : verdO (bstF hfs 1 hds 0 1 true) (bstF hfs 1 hds 0 1 false) = (1, 0) := by kernel_rfl
theorem ex_work : workE hfs 1 hds (jbs.map fun l => l.map fun (n : Nat) => (n : Int)) = (0, [[3, 1], [0, 2], [3, 0], [0, 0]], 1) := by kernel_rfl
def stpL (fs : List Flt) (kiln : Nat) (l : List Mor) (d : Nat) : List Mor := l.flatMap fun m => (exts [] fs.length).filterMap fun acts => if (dayE fs kiln m acts d).1 = 0 then some (dayE fs kiln m acts d).2 else none
def rchM (fs : List Flt) (kiln : Nat) (days : List Nat) : List Mor := days.foldl (stpL fs kiln) [start fs]
theorem stpL_mem {fs : List Flt} {kiln d : Nat} {l : List Mor} {S : Mor -> Prop} (h : ∀ m, m ∈ l ↔ S m) : ∀ m, m ∈ stpL fs kiln l d ↔ stp fs kiln S d m := fun x => by
 unfold stpL stp
 rw [List.mem_flatMap]
 constructor
 ·rintro ⟨m, hm, h2⟩
  obtain ⟨acts, ha, h3⟩ := List.mem_filterMap.1 h2
  split at h3
  ·rename_i h0
   cases h3
   exact ⟨m, (h m).1 hm, acts, ha, Prod.ext h0 rfl⟩
  ·cases h3
 ·rintro ⟨m, hm, acts, ha, h2⟩
  exact ⟨m, (h m).2 hm, List.mem_filterMap.2 ⟨acts, ha, by rw [h2]; rfl⟩⟩
theorem fold_mem {fs : List Flt} {kiln : Nat} : ∀ (days : List Nat) (l : List Mor) (S : Mor -> Prop), (∀ m, m ∈ l ↔ S m) -> ∀ m, m ∈ days.foldl (stpL fs kiln) l ↔ days.foldl (stp fs kiln) S m
 | [], _, _, h => h
 | _ :: days, _, _, h => fold_mem days _ _ (stpL_mem h)
theorem rchM_mem {fs : List Flt} {kiln : Nat} {days : List Nat} {m : Mor} : m ∈ rchM fs kiln days ↔ Rch fs kiln days m := fold_mem days _ _ (fun m => by simp) m
theorem ex_f1 : (rchM hfs 0 [3]).isEmpty = false := by kernel_rfl
theorem ex_f2 : (rchM hfs 0 [3, 2]).isEmpty = false := by kernel_rfl
theorem ex_f3 : (rchM hfs 0 [3, 2, 3]).isEmpty = true := by kernel_rfl
theorem hv {k : Nat} (hk : k <= 3) : ChV hfs k hds := ⟨by decide, by decide, by unfold FltOk; decide, hk, by decide, by decide, by decide⟩
theorem tv1 : ChV tfs 1 tds := ⟨by decide, by decide, by unfold FltOk; decide, by decide, by decide, by decide, by decide⟩
theorem eq_take {α : Type} [DecidableEq α] {l m : List α} {k : Nat} (h1 : k <= l.length) (h2 : k <= m.length) (h3 : l.take k = m.take k) (h4 : ¬ (k < l.length ∧ k < m.length)) : decide (l = m) = decide ((l.length : Int) = (m.length : Int)) := by
 rw [decide_eq_decide]
 constructor
 ·rintro rfl; rfl
 ·intro e
  have e1 : k = l.length := by omega
  have e2 : k = m.length := by omega
  rw [e1, List.take_length, <- e1, e2, List.take_length] at h3
  exact h3
end Go.Proofs.Yteppiphdbondeaa.N
namespace Go.Proofs.Yteppiphdbondeaa.N
open Go Go.RowKit Go.Proofs
set_option linter.unusedSectionVars false
variable [I : Sys]
theorem F.ent46 : Enters Try.prog 46 := enters_of Try.func46 rfl (by kernel_rfl)
theorem F.pl27 : Places Try.prog 27 [(0, 1), (1, 1), (2, 1)] := .inl ⟨_, Try.underlying27, by kernel_rfl⟩
theorem F.pl49 : Places Try.prog 49 [(0, 1), (1, 1), (2, 1), (3, 1)] := .inl ⟨_, Try.underlying49, by kernel_rfl⟩
theorem EqInts_c {A B : Option Addr} {ca cb : Nat} {l m : List Int} (hl : l.length < 1000000) (hm : m.length < 1000000) (w : World) (hA : RdL zcell 1 w A l) (hB : RdL zcell 1 w B m) : Calls Try.prog 46 #[.slice A l.length ca, .slice B m.length cb] w fun e w' => e = .returned (.bool (decide (l = m))) ∧ Grew w w' [] := by
 refine enter (N := 32) [(0, .slice A l.length ca), (1, .slice B m.length cb)] Try.func46 rfl Try.ntmps46 rfl rfl ?_
 refine cod_seq (cod_region (lst_assign rfl rfl (lst_nil (ex_then (cod_seq (cod_seq (cod_region (lst_assign rfl rfl (lst_nil (ex_then (cod_block (cod_loop (G := Nat) (fun k => k <= l.length ∧ k <= m.length ∧ l.take k = m.take k) (fun k => l.length - k) (fun k => [(0, .slice A l.length ca), (1, .slice B m.length cb), (5, .int .i64 (k : Int))]) (fun k => []) 0 ⟨Nat.zero_le _, Nat.zero_le _, rfl⟩ sbn sbl ?_))))))))))))
 intro k hk
 (try dsimp only at hk ⊢)
 refine cod_seq (cod_seq (cod_region (lst_cut1 10 15 (.bool (decide (k < l.length ∧ k < m.length))) ?_ ?_)))
 ·refine lst_move rfl rfl (lst_move rfl rfl (lst_len rfl rfl Try.underlying22 ?_))
  refine lst_int rfl rfl rfl bin_lss ?_
  refine lst_move rfl rfl (lst_split (t := 10) rfl (fun hg10 => ?_) (fun hg10 => ?_))
  ·refine lst_on rfl rfl (lst_move rfl rfl (lst_on rfl rfl (lst_move rfl rfl (lst_on rfl rfl (lst_len rfl rfl Try.underlying22 ?_)))))
   refine lst_on rfl rfl (lst_int rfl rfl rfl bin_lss ?_)
   refine lst_pick_true rfl rfl rfl (lst_nil ?_)
   exact ex_cut (.cons (by simp_all [look] <;> omega) sbn) sbl
  ·refine lst_off rfl rfl rfl (lst_off rfl rfl rfl (lst_off rfl rfl rfl (lst_off rfl rfl rfl (lst_pick_false rfl rfl rfl (lst_nil ?_)))))
   exact ex_cut (.cons (by simp_all [look] <;> omega) sbn) sbl
 refine lst_nil (ex_then (cod_cond_dec rfl (fun hc0 => ?_) (fun hc0 => ?_)))
 ·obtain ⟨hk1, hk2, hk3⟩ := hk
  obtain ⟨ba, oa, hAe, hba, hca⟩ := hA om
  obtain ⟨bb, ob, hBe, hbb, hcb⟩ := hB om
  obtain ⟨x, hx⟩ : ∃ x, l[k]? = some x := ⟨_, List.getElem?_eq_getElem hc0.1⟩
  obtain ⟨y, hy⟩ : ∃ x, m[k]? = some x := ⟨_, List.getElem?_eq_getElem hc0.2⟩
  refine cod_skip (ex_then (cod_seq (cod_block (cod_seq (any_begin [] F.follows 9 rfl [false, false, false, false, false, false, false, false, false] rfl ?_)))))
  refine any_tk 0 rfl rfl rfl (yld_move rfl) ?_
  refine any_tk 1 rfl rfl rfl (yld_move rfl) ?_
  refine any_tk 2 rfl rfl rfl (yld_index (j := k) (show _ = some (Value.slice (some ⟨ba, oa, none⟩) l.length ca) from by rw [<- hAe]; rfl) rfl Try.underlying22 F.ti3 rfl hc0.1) ?_
  refine any_tk 3 rfl rfl rfl (yld_load_at (v := .int .i64 x) rfl F.one3 (fun a w ha => ha.old (hca k x hx 0 _ rfl) hba)) ?_
  refine any_tk 4 rfl rfl rfl (yld_move rfl) ?_
  refine any_tk 5 rfl rfl rfl (yld_move rfl) ?_
  refine any_tk 6 rfl rfl rfl (yld_index (j := k) (show _ = some (Value.slice (some ⟨bb, ob, none⟩) m.length cb) from by rw [<- hBe]; rfl) rfl Try.underlying22 F.ti3 rfl hc0.2) ?_
  refine any_tk 7 rfl rfl rfl (yld_load_at (v := .int .i64 y) rfl F.one3 (fun a w ha => ha.old (hcb k y hy 0 _ rfl) hbb)) ?_
  refine any_tk 8 rfl rfl rfl (yld_int rfl rfl bin_neq) ?_
  refine adn (ex_then (cod_cond_dec rfl (fun hc1 => ?_) (fun hc1 => ?_)))
  ·refine cod_seq (cod_region (lst_assign rfl rfl (lst_nil (ex_then (cod_ret (ex_block_ret (ex_then_ret (ex_then_ret (ex_block_ret (ex_then_ret ?_))))))))))
   exact ex_ret rfl (fun a w ha => res_one rfl rfl ha) (fun a w ha => ⟨by rw [decide_eq_false (fun e => hc1 (by subst e; rw [hx] at hy; cases hy; rfl))], ha.grown nsl⟩)
  ·refine cod_skip (ex_block_normal (ex_then (cod_region (lst_move rfl rfl (lst_int rfl rfl rfl (fun w => bin_add w (wrap_i64' _ om om)) ?_)))))
   refine lst_assign rfl rfl (lst_nil (ex_round (k + 1) ⟨by omega, by omega, by rw [List.take_add_one, List.take_add_one, hx, hy, hk3]; rw [show x = y from by simpa using hc1]⟩ tdo sbn sbl))
 ·obtain ⟨hk1, hk2, hk3⟩ := hk
  refine cod_exit (ex_then_exit (ex_then_exit (ex_block_exit (ex_then (cod_seq (cod_region (lst_move rfl rfl (lst_len rfl rfl Try.underlying22 ?_))))))))
  refine lst_move rfl rfl (lst_len rfl rfl Try.underlying22 ?_)
  refine lst_int rfl rfl rfl bin_eql ?_
  refine lst_assign rfl rfl (lst_nil (ex_then (cod_ret ?_)))
  exact ex_ret rfl (fun a w ha => res_one rfl rfl ha) (fun a w ha => ⟨by rw [eq_take hk1 hk2 hk3 hc0], ha.grown nsl⟩)

theorem EqLists_c {A B : Option Addr} {ca cb : Nat} {l m : List MetaZ} (hl : l.length < 1000000) (hm : m.length < 1000000) (hl2 : ∀ x ∈ l, x.2.2.length < 1000000) (hm2 : ∀ x ∈ m, x.2.2.length < 1000000) (w : World) (hA : RdZ w A l) (hB : RdZ w B m) : Calls Try.prog 21 #[.slice A l.length ca, .slice B m.length cb] w fun e w' => e = .returned (.bool (decide (l.map (·.2.2) = m.map (·.2.2)))) ∧ Grew w w' [] := by
 refine enter (N := 33) [(0, .slice A l.length ca), (1, .slice B m.length cb)] Try.func21 rfl Try.ntmps21 rfl rfl ?_
 refine cod_seq (cod_region (lst_assign rfl rfl (lst_nil (ex_then (cod_seq (cod_seq (cod_region (lst_assign rfl rfl (lst_nil (ex_then (cod_block (cod_loop (G := Nat) (fun k => k <= l.length ∧ k <= m.length ∧ (l.map (·.2.2)).take k = (m.map (·.2.2)).take k) (fun k => l.length - k) (fun k => [(0, .slice A l.length ca), (1, .slice B m.length cb), (5, .int .i64 (k : Int))]) (fun k => []) 0 ⟨Nat.zero_le _, Nat.zero_le _, rfl⟩ sbn sbl ?_))))))))))))
 intro k hk
 (try dsimp only at hk ⊢)
 refine cod_seq (cod_seq (cod_region (lst_cut1 10 15 (.bool (decide (k < l.length ∧ k < m.length))) ?_ ?_)))
 ·refine lst_move rfl rfl (lst_move rfl rfl (lst_len rfl rfl Try.underlying29 ?_))
  refine lst_int rfl rfl rfl bin_lss ?_
  refine lst_move rfl rfl (lst_split (t := 10) rfl (fun hg10 => ?_) (fun hg10 => ?_))
  ·refine lst_on rfl rfl (lst_move rfl rfl (lst_on rfl rfl (lst_move rfl rfl (lst_on rfl rfl (lst_len rfl rfl Try.underlying29 ?_)))))
   refine lst_on rfl rfl (lst_int rfl rfl rfl bin_lss ?_)
   refine lst_pick_true rfl rfl rfl (lst_nil ?_)
   exact ex_cut (.cons (by simp_all [look] <;> omega) sbn) sbl
  ·refine lst_off rfl rfl rfl (lst_off rfl rfl rfl (lst_off rfl rfl rfl (lst_off rfl rfl rfl (lst_pick_false rfl rfl rfl (lst_nil ?_)))))
   exact ex_cut (.cons (by simp_all [look] <;> omega) sbn) sbl
 refine lst_nil (ex_then (cod_cond_dec rfl (fun hc0 => ?_) (fun hc0 => ?_)))
 ·obtain ⟨hk1, hk2, hk3⟩ := hk
  obtain ⟨ba, oa, hAe, hba, hca⟩ := hA.outer om
  obtain ⟨bb, ob, hBe, hbb, hcb⟩ := hB.outer om
  obtain ⟨x, hx⟩ : ∃ x, l[k]? = some x := ⟨_, List.getElem?_eq_getElem hc0.1⟩
  obtain ⟨y, hy⟩ : ∃ x, m[k]? = some x := ⟨_, List.getElem?_eq_getElem hc0.2⟩
  have hix := hA.inner x (List.mem_of_getElem? hx)
  have hiy := hB.inner y (List.mem_of_getElem? hy)
  have hlx := hl2 x (List.mem_of_getElem? hx)
  have hly := hm2 y (List.mem_of_getElem? hy)
  obtain ⟨xA, xc, xl⟩ := x
  obtain ⟨yA, yc, yl⟩ := y
  dsimp only at hix hiy hlx hly
  have hxm : (l.map (·.2.2))[k]? = some xl := by rw [List.getElem?_map, hx]; rfl
  have hym : (m.map (·.2.2))[k]? = some yl := by rw [List.getElem?_map, hy]; rfl
  refine cod_skip (ex_then (cod_seq (cod_block (cod_seq (any_begin [] F.follows 10 rfl [false, false, false, false, false, false, false, false, false, false] rfl ?_)))))
  refine any_tk 0 rfl rfl rfl (yld_move rfl) ?_
  refine any_tk 1 rfl rfl rfl (yld_move rfl) ?_
  refine any_tk 2 rfl rfl rfl (yld_index (j := k) (show _ = some (Value.slice (some ⟨ba, oa, none⟩) l.length ca) from by rw [<- hAe]; rfl) rfl Try.underlying29 F.ti22 rfl hc0.1) ?_
  refine any_tk 3 rfl rfl rfl (yld_load_at (v := .slice xA xl.length xc) rfl F.one22 (fun a w ha => ha.old (hca k _ hx 0 _ rfl) hba)) ?_
  refine any_tk 4 rfl rfl rfl (yld_move rfl) ?_
  refine any_tk 5 rfl rfl rfl (yld_move rfl) ?_
  refine any_tk 6 rfl rfl rfl (yld_index (j := k) (show _ = some (Value.slice (some ⟨bb, ob, none⟩) m.length cb) from by rw [<- hBe]; rfl) rfl Try.underlying29 F.ti22 rfl hc0.2) ?_
  refine any_tk 7 rfl rfl rfl (yld_load_at (v := .slice yA yl.length yc) rfl F.one22 (fun a w ha => ha.old (hcb k _ hy 0 _ rfl) hbb)) ?_
  refine an1 8 rfl ?_
  refine lst_fn0 (v := .bool (decide (xl = yl))) (vs := [_, _]) rfl rfl F.ent46 (fun a w ha => EqInts_c hlx hly w (hix.later ha.below) (hiy.later ha.below)) ?_
  refine lst_nil (anb (any_tk 9 rfl rfl rfl (yld_not rfl) ?_))
  refine adn (ex_then (cod_cond_bool rfl (fun hc1 => ?_) (fun hc1 => ?_)))
  ·refine cod_seq (cod_region (lst_assign rfl rfl (lst_nil (ex_then (cod_ret (ex_block_ret (ex_then_ret (ex_then_ret (ex_block_ret (ex_then_ret ?_))))))))))
   exact ex_ret rfl (fun a w ha => res_one rfl rfl ha) (fun a w ha => ⟨by rw [decide_eq_false (fun e => by rw [e, hym] at hxm; cases hxm; simp at hc1)], ha.grown nsl⟩)
  ·refine cod_skip (ex_block_normal (ex_then (cod_region (lst_move rfl rfl (lst_int rfl rfl rfl (fun w => bin_add w (wrap_i64' _ om om)) ?_)))))
   refine lst_assign rfl rfl (lst_nil (ex_round (k + 1) ⟨by omega, by omega, by rw [List.take_add_one, List.take_add_one, hxm, hym, hk3]; rw [show xl = yl from by simpa using hc1]⟩ tdo sbn sbl))
 ·obtain ⟨hk1, hk2, hk3⟩ := hk
  refine cod_exit (ex_then_exit (ex_then_exit (ex_block_exit (ex_then (cod_seq (cod_region (lst_move rfl rfl (lst_len rfl rfl Try.underlying29 ?_))))))))
  refine lst_move rfl rfl (lst_len rfl rfl Try.underlying29 ?_)
  refine lst_int rfl rfl rfl bin_eql ?_
  refine lst_assign rfl rfl (lst_nil (ex_then (cod_ret ?_)))
  exact ex_ret rfl (fun a w ha => res_one rfl rfl ha) (fun a w ha => ⟨by rw [eq_take (l := l.map (·.2.2)) (m := m.map (·.2.2)) (by simpa using hk1) (by simpa using hk2) hk3 (by simpa using hc0)]; simp, ha.grown nsl⟩)

theorem house_c (k : Nat) (w : World) : Calls Try.prog 42 #[.int .i64 (k : Int)] w fun e w' => ∃ b5 b7, e = .returned (.agg [.slice (some ⟨b5, 0, none⟩) 2 2, .int .i64 (k : Int), .slice (some ⟨b7, 0, none⟩) 3 3].toArray) ∧ Grew w w' [.blk b7 (.cells (ints hds).toArray 3 (0, 0)), .blk b5 (.cells (hfs.flatMap Flt.cells).toArray 49 (0, 0))] := by
 refine enter (N := 9) [(0, .int .i64 (k : Int))] Try.func42 rfl Try.ntmps42 rfl rfl ?_
 refine cod_seq (cod_region (lst_alloc rfl F.ti27 ?_))
 intro b2
 refine lst_nil (ex_then (cod_seq (cod_region (lst_struct (vs := [(0, _), (1, _), (2, _)]) (l' := [_, _, _, _]) rfl rfl F.ti49 F.pl49 (.cons rfl rfl (.cons rfl rfl (.cons rfl rfl (.nil _)))) rfl ?_))))
 refine lst_struct (vs := [(0, _), (1, _), (2, _)]) (l' := [_, _, _, _]) rfl rfl F.ti49 F.pl49 (.cons rfl rfl (.cons rfl rfl (.cons rfl rfl (.nil _)))) rfl ?_
 refine lst_litN (vs := [(0, .agg (Flt.cells ⟨3, 1, 3, false⟩).toArray), (1, .agg (Flt.cells ⟨2, 1, 1, false⟩).toArray)]) (hfs.flatMap Flt.cells) rfl rfl Try.underlying25 F.ti49 rfl rfl rfl (Lit.agg (l1 := Flt.cells ⟨3, 1, 3, false⟩) rfl (Lit.agg (l1 := Flt.cells ⟨2, 1, 1, false⟩) (l := []) rfl rfl)) ?_
 intro b5
 refine lst_move rfl rfl (lst_lit (vs := [(0, _), (1, _), (2, _)]) rfl rfl Try.underlying22 F.ti3 rfl rfl rfl ?_)
 intro b7
 refine lst_struct (vs := [(0, _), (1, _), (2, _)]) (l' := [_, _, _]) rfl rfl F.ti27 F.pl27 (.cons rfl rfl (.cons rfl rfl (.cons rfl rfl (.nil _)))) rfl ?_
 refine lst_store rfl rfl F.ti27 rfl ?_
 refine lst_nil (ex_then (cod_ret ?_))
 exact ex_ret rfl (fun a w ha => by exact res_cellN (ha := ha) rfl rfl F.agg27 F.ti27 rfl) (fun a w ha => ⟨b5, b7, rfl, ha.grown (.cons_cons _ (.cons_cons _ nsl))⟩)

theorem twins_c  (w : World) : Calls Try.prog 45 #[] w fun e w' => ∃ b5 b7, e = .returned (.agg [.slice (some ⟨b5, 0, none⟩) 2 2, .int .i64 1, .slice (some ⟨b7, 0, none⟩) 2 2].toArray) ∧ Grew w w' [.blk b7 (.cells (ints tds).toArray 3 (0, 0)), .blk b5 (.cells (tfs.flatMap Flt.cells).toArray 49 (0, 0))] := by
 refine enter (N := 6) [] Try.func45 rfl Try.ntmps45 rfl rfl ?_
 refine cod_seq (cod_region (lst_alloc rfl F.ti27 ?_))
 intro b0
 refine lst_nil (ex_then (cod_seq (cod_region (lst_struct (vs := [(0, _), (1, _), (2, _)]) (l' := [_, _, _, _]) rfl rfl F.ti49 F.pl49 (.cons rfl rfl (.cons rfl rfl (.cons rfl rfl (.nil _)))) rfl ?_))))
 refine lst_struct (vs := [(0, _), (1, _), (2, _)]) (l' := [_, _, _, _]) rfl rfl F.ti49 F.pl49 (.cons rfl rfl (.cons rfl rfl (.cons rfl rfl (.nil _)))) rfl ?_
 refine lst_litN (vs := [(0, .agg (Flt.cells ⟨2, 1, 1, false⟩).toArray), (1, .agg (Flt.cells ⟨2, 1, 1, false⟩).toArray)]) (tfs.flatMap Flt.cells) rfl rfl Try.underlying25 F.ti49 rfl rfl rfl (Lit.agg (l1 := Flt.cells ⟨2, 1, 1, false⟩) rfl (Lit.agg (l1 := Flt.cells ⟨2, 1, 1, false⟩) (l := []) rfl rfl)) ?_
 intro b5
 refine lst_lit (vs := [(0, _), (1, _)]) rfl rfl Try.underlying22 F.ti3 rfl rfl rfl ?_
 intro b7
 refine lst_struct (vs := [(0, _), (1, _), (2, _)]) (l' := [_, _, _]) rfl rfl F.ti27 F.pl27 (.cons rfl rfl (.cons rfl rfl (.cons rfl rfl (.nil _)))) rfl ?_
 refine lst_store rfl rfl F.ti27 rfl ?_
 refine lst_nil (ex_then (cod_ret ?_))
 exact ex_ret rfl (fun a w ha => by exact res_cellN (ha := ha) rfl rfl F.agg27 F.ti27 rfl) (fun a w ha => ⟨b5, b7, rfl, ha.grown (.cons_cons _ (.cons_cons _ nsl))⟩)

theorem jobs_c  (w : World) : Calls Try.prog 44 #[] w fun e w' => ∃ b1 b2 b3 b4, e = .returned (.slice (some ⟨b4, 0, none⟩) 3 3) ∧ Grew w w' [.blk b4 (.cells [.slice (some ⟨b1, 0, none⟩) 2 2, .slice (some ⟨b2, 0, none⟩) 2 2, .slice (some ⟨b3, 0, none⟩) 2 2].toArray 22 (0, 0)), .blk b3 (.cells [.int .i64 0, .int .i64 0].toArray 3 (0, 0)), .blk b2 (.cells [.int .i64 3, .int .i64 0].toArray 3 (0, 0)), .blk b1 (.cells [.int .i64 0, .int .i64 2].toArray 3 (0, 0))] := by
 refine enter (N := 5) [] Try.func44 rfl Try.ntmps44 rfl rfl ?_
 refine cod_seq (cod_region (lst_assign rfl rfl (lst_nil (ex_then (cod_seq (cod_region (lst_lit (vs := [(0, _), (1, _)]) rfl rfl Try.underlying22 F.ti3 rfl rfl rfl ?_)))))))
 intro b1
 refine lst_lit (vs := [(0, _), (1, _)]) rfl rfl Try.underlying22 F.ti3 rfl rfl rfl ?_
 intro b2
 refine lst_lit (vs := [(0, _), (1, _)]) rfl rfl Try.underlying22 F.ti3 rfl rfl rfl ?_
 intro b3
 refine lst_lit (vs := [(0, _), (1, _), (2, _)]) rfl rfl Try.underlying29 F.ti22 rfl rfl rfl ?_
 intro b4
 refine lst_assign rfl rfl (lst_nil (ex_then (cod_ret ?_)))
 exact ex_ret rfl (fun a w ha => res_one rfl rfl ha) (fun a w ha => ⟨b1, b2, b3, b4, rfl, ha.grown (.cons_cons _ (.cons_cons _ (.cons_cons _ (.cons_cons _ nsl))))⟩)

end Go.Proofs.Yteppiphdbondeaa.N
namespace Go.Proofs.Yteppiphdbondeaa.N
open Go Go.RowKit Go.Proofs
set_option linter.unusedSectionVars false
theorem mr2 {l1 l2 : List Nat} {mr : List Meta} (h : mr.reverse.map (·.2.2) = [l1, l2]) : ∃ a b : Option Addr × Nat, mr = [(b.1, b.2, l2), (a.1, a.2, l1)] := by
 have hl : mr.length = 2 := by simpa using congrArg List.length h
 match mr, hl with
 | [(q1, q2, q3), (p1, p2, p3)], _ =>
  simp at h
  obtain ⟨rfl, rfl⟩ := h
  exact ⟨(p1, p2), (q1, q2), rfl⟩
theorem mr3 {l1 l2 l3 : List Nat} {mr : List Meta} (h : mr.reverse.map (·.2.2) = [l1, l2, l3]) : ∃ a b c : Option Addr × Nat, mr = [(c.1, c.2, l3), (b.1, b.2, l2), (a.1, a.2, l1)] := by
 have hl : mr.length = 3 := by simpa using congrArg List.length h
 match mr, hl with
 | [(r1, r2, r3), (q1, q2, q3), (p1, p2, p3)], _ =>
  simp at h
  obtain ⟨rfl, rfl, rfl⟩ := h
  exact ⟨(p1, p2), (q1, q2), (r1, r2), rfl⟩
theorem mr4 {l1 l2 l3 l4 : List Nat} {mr : List Meta} (h : mr.reverse.map (·.2.2) = [l1, l2, l3, l4]) : ∃ a b c d : Option Addr × Nat, mr = [(d.1, d.2, l4), (c.1, c.2, l3), (b.1, b.2, l2), (a.1, a.2, l1)] := by
 have hl : mr.length = 4 := by simpa using congrArg List.length h
 match mr, hl with
 | [(s1, s2, s3), (r1, r2, r3), (q1, q2, q3), (p1, p2, p3)], _ =>
  simp at h
  obtain ⟨rfl, rfl, rfl, rfl⟩ := h
  exact ⟨(p1, p2), (q1, q2), (r1, r2), (s1, s2), rfl⟩
theorem rch_some {fs : List Flt} {kiln : Nat} {days : List Nat} (h : (rchM fs kiln days).isEmpty = false) : ∃ m, Rch fs kiln days m := by
 cases hl : rchM fs kiln days with
 | nil => rw [hl] at h; cases h
 | cons m l => exact ⟨m, rchM_mem.1 (by rw [hl]; simp)⟩
theorem rch_none {fs : List Flt} {kiln : Nat} {days : List Nat} (h : (rchM fs kiln days).isEmpty = true) (m : Mor) : ¬ Rch fs kiln days m := fun hm => by
 have := rchM_mem.2 hm
 rw [List.isEmpty_iff.1 h] at this
 cases this
theorem ex_fails {P : Nat -> Prop} {q : Prop} (h : (∃ d, d < hds.length ∧ (∀ j, j < d -> ∃ m, Rch hfs 0 (hds.take (j + 1)) m) ∧ (∀ m, ¬ Rch hfs 0 (hds.take (d + 1)) m) ∧ P d) ∨ ((∀ j, j < hds.length -> ∃ m, Rch hfs 0 (hds.take (j + 1)) m) ∧ q)) : P 2 := by
 rcases h with ⟨d, h1, h2, h3, h4⟩ | ⟨h1, _⟩
 ·rcases d with _ | _ | _ | d
  ·obtain ⟨m, hm⟩ := rch_some ex_f1
   exact absurd hm (h3 m)
  ·obtain ⟨m, hm⟩ := rch_some ex_f2
   exact absurd hm (h3 m)
  ·exact h4
  ·exact absurd h1 (by simp [hds])
 ·obtain ⟨m, hm⟩ := h1 2 (by decide)
  exact absurd hm (rch_none ex_f3 m)
end Go.Proofs.Yteppiphdbondeaa.N
