/- Parts of the walk of the law CharFewest: T18, T19, ChQ, T20, T21, ChR, T22, T23, ChB, T24, ChC, T25, ChF, T26, ChH. -/
import Derived.Test.YteppiphdbondeaaSCharFewest07
import Derived.Test.YteppiphdbondeaaProg
import Derived.Test.YteppiphdbondeaaSCharFewest05
namespace Go.Proofs.Yteppiphdbondeaa.N
open Go Go.RowKit Go.Proofs
set_option linter.unusedSectionVars false
variable [I : Sys]
theorem F.ent72 : Enters Try.prog 72 := jD Try.func72 rfl (by kernel_rfl)
theorem zSh (fA dA : Option Addr) (fc nd dc kiln : Nat) (fs : List Flt) (h3 : fs.length <= 3) (z0 z1 z2 zw : Nat) (w : World) : Calls Try.prog 72 #[.agg (CA fA fs.length fc kiln dA nd dc).toArray, .agg (V4 z0 z1 z2 zw).toArray] w fun e w' => ∃ A c, e = .returned (.slice A fs.length c) ∧ Grew w w' [.row 3 1 A fs.length c (ints ([z0, z1, z2].take fs.length))] := by
 refine enter (N := 13) [(0, .agg (CA fA fs.length fc kiln dA nd dc).toArray), (1, .agg (V4 z0 z1 z2 zw).toArray)] Try.func72 rfl Try.ntmps72 rfl rfl (zD (zB (kA rfl rfl ?_)))
 intro b2
 refine kA rfl rfl ?_
 intro b3
 refine zE rfl rfl (zA (zC (zD (zB (zEz rfl Try.underlying22 F.ti3 ?_)))))
 intro b5
 refine zCa 1 (.head _) (zL rfl rfl F.fi95_0 F.ti92 (zL rfl rfl F.fi77_0 F.ti27 (zL rfl rfl F.fi27_0 F.ti25 (zR rfl rfl F.one25 (jX rfl rfl Try.underlying25 (zLn rfl rfl rfl Try.underlying92 F.ti3 h3 ?_))))))
 refine zIh (l := [z0, z1, z2].take fs.length) rfl rfl rfl Try.underlying22 F.ti3 rfl (fun a w ha j u hu => by
  have h9 := ha.mem_blk (InB.mem (b := b3) (o := .cells (V4 z0 z1 z2 zw).toArray 95 (0, 0)))
  rw [xE, cell_of_row w b3 _ _ _ _ h9]
  have h8 := zSg (w := .int .u8 (zw : Int)) hu
  simpa using h8) (by simp; omega) (by unfold maxLen; omega) om ?_
 intro A1 c1
 exact zE rfl rfl (zA (zC (zY (jJ rfl (fun a w ha => jO rfl rfl ha) (fun a w ha => ⟨A1, c1, by rw [Nat.zero_add], by rw [Nat.zero_add] at ha; exact ha.grown (.cons_cons _ nsl)⟩)))))

theorem zU2 {fA dA pA : Option Addr} {fc dc pc kiln : Nat} {fs : List Flt} {days : List Nat} {ms : List MetaZ} (hc : ChV fs kiln days) (hml0 : ms.length < 1000000) (hms : ∀ m ∈ ms, m.2.2.length < 1000000) (w : World) (hF : RdL Flt.cells 4 w fA fs) (hD : RdL ncell 1 w dA days) (hP : RdZ w pA ms) : Calls Try.prog 51 #[.agg (CA fA fs.length fc kiln dA days.length dc).toArray, .slice pA ms.length pc] w fun e w' => ∃ (oA : Option Addr) (oc : Nat) (mr : List Meta), mr.reverse.map (·.2.2) = (workE fs kiln days (ms.map (·.2.2))).2.1 ∧ e = .returned (.tuple #[.slice oA mr.length oc, .int .i64 (((workE fs kiln days (ms.map (·.2.2))).2.2 : Nat) : Int), .int .i64 (((workE fs kiln days (ms.map (·.2.2))).1 : Nat) : Int)]) ∧ Grew w w' (.row 22 1 oA mr.length oc (mr.reverse.map mcell) :: mr.map mrow) := by
 have hm0 : MOk (start fs) := yG hc.f3 hc.ff _ (Nat.le_refl _)
 obtain ⟨x0, x1, x2, xw, hx, hx0, hx1, hx2, hxw⟩ := hm0.form
 obtain ⟨db, dbo, hdA⟩ := zJo hD hc.d1
 refine enter (N := 100) [(0, .agg (CA fA fs.length fc kiln dA days.length dc).toArray), (1, .slice pA ms.length pc)] Try.func51 rfl Try.ntmps51 rfl rfl (zD (zB (kA rfl rfl ?_)))
 intro b2
 refine zE rfl rfl (zE rfl rfl (zE rfl rfl (zA (zC (zD (zD (zB (zF rfl rfl (jX rfl rfl Try.underlying29 (zL rfl rfl F.fi77_0 F.ti27 (zL rfl rfl F.fi27_2 F.ti22 (zR rfl rfl F.one22 (jX rfl rfl Try.underlying22 (zL rfl rfl F.fi77_0 F.ti27 (zL rfl rfl F.fi27_2 F.ti22 (zR rfl rfl F.one22 (jX rfl rfl Try.underlying22 (jM (v := .int .i64 ((szd ms.length (days.length) (days.length) : Nat) : Int)) (vs := [_, _, _]) rfl rfl F.ent65 (fun a w ha => zGz (ms.length) (days.length) (days.length) w) (zE rfl rfl (zA (zC (zD (zB (zF rfl rfl (zI rfl rfl rfl qO ?_)))))))))))))))))))))))))
 refine zA (zC (zN rfl (fun hc0 => ?_) (fun hc0 => ?_)))
 ·exact zD (zB (zF rfl rfl (zE rfl rfl (zE rfl rfl (zE rfl rfl (zA (zC (zY (jB (jJ rfl (fun a w ha => xL rfl rfl rfl rfl ha) (fun a w ha => ⟨none, 0, [], by rw [show workE fs kiln days (ms.map (·.2.2)) = (szd ms.length days.length days.length, [], 0) from by unfold workE; rw [List.length_map, if_pos om]]; rfl, by rw [show workE fs kiln days (ms.map (·.2.2)) = (szd ms.length days.length days.length, [], 0) from by unfold workE; rw [List.length_map, if_pos om]]; rfl, (ha.add_nil 22 1).grown (.cons_cons _ nsl)⟩)))))))))))
 ·skip
  refine zQ (zC (zD (zB (jE rfl rfl F.agg77 F.ti77 (jM (v := .agg (V4 x0 x1 x2 xw).toArray) (vs := [_]) rfl rfl F.ent60 (fun a w ha => (zDz fA dA fc days.length dc kiln fs hc.f3 hc.ff w (hF.later ha.below)).mono (fun e w' h => ⟨h.1.trans (by rw [hx]; rfl), h.2⟩)) (zX rfl F.ti95 ?_))))))
  intro b8
  refine zH rfl rfl F.ti95 rfl (zA (zC (zD (zB (jE rfl rfl F.agg77 F.ti77 (jE rfl rfl F.agg95 F.ti95 ?_))))))
  refine qK (X := Option Addr × Nat) (vs := [_, _]) (p := fun _ => True) (val := fun g => .slice g.1 ([x0, x1, x2].take fs.length).length g.2) (rs := fun g => [mrow (g.1, g.2, [x0, x1, x2].take fs.length)]) rfl rfl F.ent72 (fun a w ha => (zSh fA dA fc days.length dc kiln fs hc.f3 x0 x1 x2 xw w).mono (fun e w' h => by
   obtain ⟨A, c, h1, h2⟩ := h
   have hlt : ([x0, x1, x2].take fs.length).length = fs.length := by have := hc.f3; simp; omega
   exact ⟨(A, c), trivial, by rw [hlt]; exact h1, by unfold mrow; dsimp only; rw [hlt]; exact h2⟩)) ?_
  rintro ⟨A1, c1⟩ -
  dsimp only [List.cons_append, List.nil_append]
  refine jV (vs := [(0, _)]) rfl rfl Try.underlying29 F.ti22 rfl rfl rfl ?_
  intro b37
  refine zMp (.head _) (zE rfl rfl (zA (zC (zD (zB (zE rfl rfl (zA (zC (zD (zD (zB (zF rfl rfl (jX rfl rfl Try.underlying29 (zF rfl rfl (zA (zC (zS (qW (G := Mor × Nat × Nat × List Meta × Option Addr × Nat × List (List Nat)) (fun g => WkI fs kiln days (ms.map (·.2.2)) g.2.1 g.1 g.2.2.1 g.2.2.2.2.2.2 ∧ g.2.2.2.1.reverse.map (·.2.2) = strs fs (start fs) :: g.2.2.2.2.2.2 ∧ g.2.2.2.1.length = g.2.1 + 1) (fun g => ms.length - g.2.1) (fun g => [(2, pt b2), (8, pt b8), (9, .slice g.2.2.2.2.1 g.2.2.2.1.length g.2.2.2.2.2.1), (10, .int .i64 (g.2.2.1 : Int)), (38, .slice pA ms.length pc), (39, .int .i64 (ms.length : Int)), (40, .int .i64 (g.2.1 : Int))]) (fun g => .blk b8 (.cells (Mor.cells g.1).toArray 95 (0, 0)) :: .row 22 1 g.2.2.2.2.1 g.2.2.2.1.length g.2.2.2.2.2.1 (g.2.2.2.1.reverse.map mcell) :: .blk b2 (.cells (CA fA fs.length fc kiln dA days.length dc).toArray 77 (0, 0)) :: g.2.2.2.1.map mrow) ((⟨[x0, x1, x2], xw⟩ : Mor), 0, 0, [(A1, c1, [x0, x1, x2].take fs.length)], some ⟨b37, 0, none⟩, 1, []) ⟨hx ▸ WkI.first hm0, by rw [hx]; rfl, rfl⟩ sbn pkk ?_))))))))))))))))))
  rintro ⟨m, k, fires, mr, oA, oc, out⟩ ⟨hI, hmr, hml⟩
  dsimp only at hI hmr hml ⊢
  obtain ⟨z0, z1, z2, zw, rfl, hz0, hz1, hz2, hzw⟩ := hI.ok.form
  have hfle := hI.fle
  have hkle := hI.le
  rw [List.length_map] at hkle
  have hd4 := hc.d4
  rw [show Mor.cells (⟨[z0, z1, z2], zw⟩ : Mor) = (V4 z0 z1 z2 zw) from rfl]
  refine zD (zB (zI rfl rfl rfl jR ?_))
  refine zA (zC (zD (zN rfl (fun hc1 => ?_) (fun hc1 => ?_))))
  ·have hk' : k < ms.length := by omega
   obtain ⟨pb, po, rfl, hpb, hpc⟩ := hP.outer om
   obtain ⟨me, hme⟩ : ∃ x, ms[k]? = some x := ⟨_, List.getElem?_eq_getElem hk'⟩
   have hin := hP.inner me (List.mem_of_getElem? hme)
   have hmlen := hms me (List.mem_of_getElem? hme)
   obtain ⟨lA, lc, l⟩ := me
   dsimp only at hin hmlen
   have hpl : (ms.map (·.2.2))[k]? = some l := by rw [List.getElem?_map, hme]; rfl
   have hml2 : ms.length = days.length := by unfold szd at hc0; split at hc0; omega; split at hc0; omega; omega
   obtain ⟨sugar, hsx⟩ : ∃ x, days[k]? = some x := ⟨_, List.getElem?_eq_getElem om⟩
   have hxs : sugar <= 12 := hc.dd sugar (List.mem_of_getElem? hsx)
   refine zQ (zC (zD (zS (zD (zB (zF rfl rfl (qE (j := k) rfl rfl rfl Try.underlying29 F.ti22 rfl hk' (kN (v := .slice lA l.length lc) rfl rfl F.one22 (fun a w ha => ha.old (hpc k _ hme 0 _ rfl) hpb) (zE rfl rfl (zE rfl rfl (zA (zC (zD (zD (zB (zF rfl rfl (jX rfl rfl Try.underlying22 (zL rfl rfl F.fi77_0 F.ti27 (zL rfl rfl F.fi27_0 F.ti25 (zR rfl rfl F.one25 (jX rfl rfl Try.underlying25 (zL rfl rfl F.fi77_0 F.ti27 (zL rfl rfl F.fi27_0 F.ti25 (zR rfl rfl F.one25 (jX rfl rfl Try.underlying25 (jM (v := .int .i64 ((szd l.length (fs.length) (fs.length) : Nat) : Int)) (vs := [_, _, _]) rfl rfl F.ent65 (fun a w ha => zGz (l.length) (fs.length) (fs.length) w) (zE rfl rfl (zA (zC (zD (zB (zF rfl rfl (zI rfl rfl rfl qO ?_)))))))))))))))))))))))))))))))))
   refine zA (zC (zN rfl (fun hc2 => ?_) (fun hc2 => ?_)))
   ·exact zD (zB (zF rfl rfl (zE rfl rfl (zE rfl rfl (zE rfl rfl (zA (zC (zY (jB (jW (jB (jB (jW (jB (jJ rfl (fun a w ha => xL rfl rfl rfl rfl ha) (fun a w ha => ⟨none, 0, [], by rw [show workE fs kiln days (ms.map (·.2.2)) = (szd l.length fs.length fs.length, [], 0) from by unfold workE; rw [List.length_map, if_neg om, hI.short hpl om, if_pos om]]; rfl, by rw [show workE fs kiln days (ms.map (·.2.2)) = (szd l.length fs.length fs.length, [], 0) from by unfold workE; rw [List.length_map, if_neg om, hI.short hpl om, if_pos om]]; rfl, (ha.add_nil 22 1).grown (.cons_cons _ nsl)⟩))))))))))))))))
   ·have hc2 : ¬ szd l.length fs.length fs.length ≠ 0 := by omega
    refine zQ (zC (zD (zD (zB (zF rfl rfl (jX rfl rfl Try.underlying22 (zF rfl rfl (zA (zC (zS (xY (G := Nat) (fun j => j <= l.length ∧ badK (l.take j) = false) (fun j => l.length - j) (fun j => (11, .int .i64 (k : Int)) :: (12, .slice lA l.length lc) :: (59, .slice lA l.length lc) :: (60, .int .i64 (l.length : Int)) :: (61, .int .i64 (j : Int)) :: [(2, pt b2), (8, pt b8), (9, .slice oA mr.length oc), (10, .int .i64 (fires : Int)), (38, .slice (some ⟨pb, po, none⟩) ms.length pc), (39, .int .i64 (ms.length : Int)), (40, .int .i64 (k : Int))]) (fun j => .blk b8 (.cells (V4 z0 z1 z2 zw).toArray 95 (0, 0)) :: .row 22 1 oA mr.length oc (mr.reverse.map mcell) :: .blk b2 (.cells (CA fA fs.length fc kiln dA days.length dc).toArray 77 (0, 0)) :: mr.map mrow) 0 ⟨Nat.zero_le _, rfl⟩ sbn sbl ?_)))))))))))
    intro j ⟨hj, hbk⟩
    (try dsimp only at hj hbk ⊢)
    refine zD (zB (zI rfl rfl rfl jR ?_))
    refine zA (zC (zD (zN rfl (fun hc3 => ?_) (fun hc3 => ?_))))
    ·have hj' : j < l.length := by omega
     obtain ⟨lb, lo, rfl, hlb, hlcell⟩ := hin om
     obtain ⟨x, hxj⟩ : ∃ x, l[j]? = some x := ⟨_, List.getElem?_eq_getElem hj'⟩
     refine zQ (zC (zD (zS (zD (zB (qE (j := j) rfl rfl rfl Try.underlying22 F.ti3 rfl hj' (kN (v := .int .i64 x) rfl rfl F.one3 (fun a w ha => ha.old (hlcell j _ hxj 0 _ rfl) hlb) (zE rfl rfl (zA (zC (zD (zB (zF rfl rfl (jM (v := .bool (btw x (0) (3))) (vs := [_, _, _]) rfl rfl F.ent52 (fun a w ha => wB (x) (0) (3) w) ?_))))))))))))))
     refine qF rfl rfl (zA (zC (qD rfl (fun hc4 => ?_) (fun hc4 => ?_))))
     ·exact zD (zB (zE rfl rfl (zE rfl rfl (zE rfl rfl (zA (zC (zY (jW (jB (jB (jW (jB (jW (jB (jB (jW (jB (jJ rfl (fun a w ha => xL rfl rfl rfl rfl ha) (fun a w ha => ⟨none, 0, [], by rw [show workE fs kiln days (ms.map (·.2.2)) = (8, [], 0) from by unfold workE; rw [List.length_map, if_neg om, hI.sort hpl hc2 (zSz hxj (by simpa using hc4)), if_pos om]]; rfl, by rw [show workE fs kiln days (ms.map (·.2.2)) = (8, [], 0) from by unfold workE; rw [List.length_map, if_neg om, hI.sort hpl hc2 (zSz hxj (by simpa using hc4)), if_pos om]]; rfl, (ha.add_nil 22 1).grown (.cons_cons _ nsl)⟩)))))))))))))))))))
     ·refine zQ (zJ (zC (zB (zI rfl rfl rfl (fun w => jK w (zT _ om om)) (zF rfl rfl (zA (qY (j + 1) ⟨by omega, zTe hxj hbk (by simpa using hc4)⟩ tdo sbn sbl)))))))
    ·have hbk2 : badK l = false := by rw [List.take_of_length_le om] at hbk; exact hbk
     have hnl : (natL l).length = l.length := by simp [natL]
     have hszl : l.length = fs.length := by unfold szd at hc2; split at hc2; omega; split at hc2; omega; omega
     have hglen : (natL l).length <= fs.length := by omega
     obtain ⟨hok2, -⟩ := wC (fs := fs) (kiln := kiln) (m := (⟨[z0, z1, z2], zw⟩ : Mor)) (acts := natL l) (sugar := sugar) hc.ff hI.ok hglen hc.f3
     have htry : ∀ w, RdL Flt.cells 4 w fA fs -> RdL ncell 1 w lA (natL l) -> Calls Try.prog 71 #[.agg (CA fA fs.length fc kiln dA days.length dc).toArray, .agg (V4 z0 z1 z2 zw).toArray, .slice lA l.length lc, .int .i64 (sugar : Int)] w (fun e w' => e = .returned (.tuple #[(dayE fs kiln (⟨[z0, z1, z2], zw⟩ : Mor) (natL l) sugar).2.val, .int .i64 (((dayE fs kiln (⟨[z0, z1, z2], zw⟩ : Mor) (natL l) sugar).1 : Nat) : Int)]) ∧ Grew w w' []) := fun w hF hA => by
      have h9 := zLq fA dA lA fc days.length dc lc kiln fs hc.f3 hc.ff z0 z1 z2 zw hz0 hz1 hz2 hzw (natL l) hglen sugar hxs w hF hA
      rw [hnl] at h9
      exact h9
     have hgd : days.getD k 0 = sugar := by rw [List.getD_eq_getElem?_getD, hsx]; rfl
     have hday := fun h => hI.day (l := l) hpl hc2 hbk2 h
     have hnext := fun h h' => hI.next (l := l) hpl hc2 hbk2 h h'
     rw [hgd] at hday hnext
     generalize dayE fs kiln (⟨[z0, z1, z2], zw⟩ : Mor) (natL l) sugar = st at hok2 htry hday hnext ⊢
     obtain ⟨er, nm⟩ := st
     dsimp only at hok2 htry hday hnext ⊢
     obtain ⟨y0, y1, y2, yw, rfl, hy0, hy1, hy2, hyw⟩ := hok2.form
     have hsf := zCp (natL l)
     refine jU (zO (zO (jF (zC (zD (xK (G := Nat) (fun _ => True) (fun b16 => (11, .int .i64 (k : Int)) :: (12, .slice lA l.length lc) :: (16, pt b16) :: (17, .int .i64 (er : Int)) :: [(2, pt b2), (8, pt b8), (9, .slice oA mr.length oc), (10, .int .i64 (fires : Int)), (38, .slice (some ⟨pb, po, none⟩) ms.length pc), (39, .int .i64 (ms.length : Int)), (40, .int .i64 (k : Int))]) (fun b16 => .blk b16 (.cells (V4 y0 y1 y2 yw).toArray 95 (0, 0)) :: .blk b8 (.cells (V4 z0 z1 z2 zw).toArray 95 (0, 0)) :: .row 22 1 oA mr.length oc (mr.reverse.map mcell) :: .blk b2 (.cells (CA fA fs.length fc kiln dA days.length dc).toArray 77 (0, 0)) :: mr.map mrow) ?_ ?_))))))
     ·refine kD [] F.follows 16 rfl [false, false, false, false, false, false, false, false, false, false, false, false, false, false, false, false] rfl (zG 0 rfl rfl rfl (qL rfl F.agg77 F.ti77) (zG 1 rfl rfl rfl (qL rfl F.agg95 F.ti95) (zG 2 rfl rfl rfl (zP rfl) (zG 3 rfl rfl rfl (jA rfl F.fi77_0 F.ti27) (zG 4 rfl rfl rfl (jA rfl F.fi27_2 F.ti22) (zG 5 rfl rfl rfl (kH rfl F.one22) (zG 6 rfl rfl rfl (zP rfl) (zG 7 rfl rfl rfl (kM (j := k) (show _ = some (Value.slice (some ⟨db, dbo, none⟩) days.length dc) from by rw [<- hdA]; rfl) rfl Try.underlying22 F.ti3 rfl (show k < days.length by omega)) (zG 8 rfl rfl rfl (jP (v := .int .i64 (sugar : Int)) rfl F.one3 (fun a w ha => zJq (by have h := hD.later ha.below; rw [hdA] at h; exact h) hsx)) ?_)))))))))
      refine qI 9 13 kr rfl rfl rfl rfl ?_ ?_
      ·refine jM (v := .tuple #[.agg (V4 y0 y1 y2 yw).toArray, .int .i64 (er : Int)]) (vs := [_, _, _, _]) rfl rfl F.ent71 (fun a w ha => (htry w (hF.later ha.below) (RdL.nats (hin.later ha.below) hbk2)).mono (fun e w' h => ⟨h.1.trans rfl, h.2⟩)) (zA (anb (zG 10 rfl rfl rfl (zP rfl) (zG 11 rfl rfl rfl (kZ rfl rfl) (zG 12 rfl rfl rfl (kZ rfl rfl) (an1 13 rfl (zX rfl F.ti95 ?_)))))))
       intro b16
       exact zA (anb (an1 14 rfl (zH rfl rfl F.ti95 rfl (zA (anb (zG 15 rfl rfl rfl (jZ rfl) (adn (jS b16 trivial sbn pkk))))))))
      ·refine zX rfl F.ti95 ?_
       intro b16
       exact zA (anb (an1 9 rfl (jM (v := .tuple #[.agg (V4 y0 y1 y2 yw).toArray, .int .i64 (er : Int)]) (vs := [_, _, _, _]) rfl rfl F.ent71 (fun a w ha => (htry w (hF.later ha.below) (RdL.nats (hin.later ha.below) hbk2)).mono (fun e w' h => ⟨h.1.trans rfl, h.2⟩)) (zA (anb (zG 10 rfl rfl rfl (zP rfl) (zG 11 rfl rfl rfl (kZ rfl rfl) (zG 12 rfl rfl rfl (kZ rfl rfl) (an1 14 rfl (zH rfl rfl F.ti95 rfl (zA (anb (zG 15 rfl rfl rfl (jZ rfl) (adn (jS b16 trivial sbn pkk)))))))))))))))
     ·rintro b16 -
      (try dsimp only)
      refine zC (zD (zD (zB (zF rfl rfl (zI rfl rfl rfl qO ?_)))))
      refine zA (zC (zN rfl (fun hc5 => ?_) (fun hc5 => ?_)))
      ·exact zD (zB (zF rfl rfl (zE rfl rfl (zE rfl rfl (zE rfl rfl (zA (zC (zY (jB (jW (jB (jB (jW (jB (jJ rfl (fun a w ha => xL rfl rfl rfl rfl ha) (fun a w ha => ⟨none, 0, [], by rw [show workE fs kiln days (ms.map (·.2.2)) = (er, [], 0) from by unfold workE; rw [List.length_map, if_neg om, hday om, if_pos om]]; rfl, by rw [show workE fs kiln days (ms.map (·.2.2)) = (er, [], 0) from by unfold workE; rw [List.length_map, if_neg om, hday om, if_pos om]]; rfl, (ha.add_nil 22 1).grown (.cons_cons _ nsl)⟩))))))))))))))))
      ·refine zQ (zC (zD (kD [.b b8] F.follows 8 rfl [false, false, false, false, false, false, false, false] rfl (zG 0 rfl rfl rfl (qL rfl F.agg95 F.ti95) (zG 1 rfl rfl rfl (zP rfl) (zG 2 rfl rfl rfl (zP rfl) (an1 3 rfl (jM (v := .agg [.int .i64 ((spF (natL l) : Nat) : Int), .int .i64 ((spW (natL l) : Nat) : Int)].toArray) (vs := [_]) rfl rfl F.ent73 (fun a w ha => by have h9 := zOr lA lc (natL l) (by have := hc.f3; omega) w (RdL.nats (hin.later ha.below) hbk2); rw [hnl] at h9; exact h9) (zA (anb (zG 4 rfl rfl rfl (zP4 (vs := [.int .i64 ((spF (natL l) : Nat) : Int), .int .i64 ((spW (natL l) : Nat) : Int)]) rfl F.fi109_0 F.one3 rfl) (zG 5 rfl rfl rfl (kS (v := .int .i64 ((fires + spF (natL l) : Nat) : Int)) rfl rfl (fun w => jK w (by rw [zT _ om om]; omega))) (an1 6 rfl (zH rfl rfl F.ti95 rfl (zA (anb (zG 7 rfl rfl rfl (jZ rfl) (adn (zC (zB (zF rfl rfl (jE rfl rfl F.agg77 F.ti77 (jE rfl rfl F.agg95 F.ti95 ?_)))))))))))))))))))))))
       refine qK (X := Option Addr × Nat) (vs := [_, _]) (p := fun _ => True) (val := fun g => .slice g.1 ([y0, y1, y2].take fs.length).length g.2) (rs := fun g => [mrow (g.1, g.2, [y0, y1, y2].take fs.length)]) rfl rfl F.ent72 (fun a w ha => (zSh fA dA fc days.length dc kiln fs hc.f3 y0 y1 y2 yw w).mono (fun e w' h => by
        obtain ⟨A, c, h1, h2⟩ := h
        have hlt : ([y0, y1, y2].take fs.length).length = fs.length := by have := hc.f3; simp; omega
        exact ⟨(A, c), trivial, by rw [hlt]; exact h1, by unfold mrow; dsimp only; rw [hlt]; exact h2⟩)) ?_
       rintro ⟨A2, c2⟩ -
       dsimp only [List.cons_append, List.nil_append]
       refine jV (vs := [(0, _)]) rfl rfl Try.underlying29 F.ti22 rfl rfl rfl ?_
       intro b95
       refine kL rfl rfl rfl Try.underlying29 F.ti22 rfl rfl rfl (by unfold maxLen; omega) om ?_
       intro A3 c3
       refine zE rfl rfl (zA (zJ (zC (zB (zI rfl rfl rfl (fun w => jK w (zT _ om om)) (zF rfl rfl (zA ?_)))))))
       have hlt : ([y0, y1, y2].take fs.length).length = fs.length := by have := hc.f3; simp; omega
       refine kP ((⟨[y0, y1, y2], yw⟩ : Mor), k + 1, fires + spF (natL l), (A2, c2, [y0, y1, y2].take fs.length) :: mr, A3, c3, out ++ [strs fs ⟨[y0, y1, y2], yw⟩]) ⟨hnext om ⟨rfl, by simp; omega, hyw⟩, by rw [List.reverse_cons, List.map_append, hmr]; rfl, by simp [hml]⟩ tdo (by (try dsimp only); repeat (first | exact Sub.nil _ | refine Sub.cons rfl ?_)) (by (try dsimp only); rw [List.reverse_cons, List.map_append]; repeat (first | exact Pck.nil _ | exact Pck.refl _ | (apply Pck.cons; focus ((repeat (first | exact Rem.here _ | apply Rem.there)); done)) | refine Pck.skip _ ?_))
  ·have hkl : k = (ms.map (·.2.2)).length := by rw [List.length_map]; omega
   have hlast := hI.last hkl
   have hwe : workE fs kiln days (ms.map (·.2.2)) = (0, strs fs (start fs) :: out, fires) := by unfold workE; rw [List.length_map, if_neg om, hlast, if_neg (by simp)]
   exact jU (zO (zO (jF (zC (zD (zB (zF rfl rfl (zF rfl rfl (zE rfl rfl (zE rfl rfl (zE rfl rfl (zA (zC (zY (jJ rfl (fun a w ha => xL rfl rfl rfl rfl ha) (fun a w ha => ⟨oA, oc, mr, by rw [hwe]; exact hmr, by rw [hwe]; rfl, ha.grown (.cons _ (.cons_cons _ (.cons _ (List.Sublist.refl _))))⟩))))))))))))))))

theorem F.ent51 : Enters Try.prog 51 := jD Try.func51 rfl (by kernel_rfl)
theorem zMk {fA dA pA : Option Addr} {fc dc pc kiln : Nat} {fs : List Flt} {days : List Nat} {ms : List MetaZ} (hc : ChV fs kiln days) (hml0 : ms.length < 1000000) (hms : ∀ m ∈ ms, m.2.2.length < 1000000) (w : World) (hF : RdL Flt.cells 4 w fA fs) (hD : RdL ncell 1 w dA days) (hP : RdZ w pA ms) : Calls Try.prog 17 #[.agg (CA fA fs.length fc kiln dA days.length dc).toArray, .slice pA ms.length pc] w fun e w' => ∃ (oA : Option Addr) (oc : Nat) (mr : List Meta), mr.reverse.map (·.2.2) = (workE fs kiln days (ms.map (·.2.2))).2.1 ∧ e = .returned (.tuple #[.slice oA mr.length oc, .int .i64 (((workE fs kiln days (ms.map (·.2.2))).2.2 : Nat) : Int), .int .i64 (((workE fs kiln days (ms.map (·.2.2))).1 : Nat) : Int)]) ∧ Grew w w' (.row 22 1 oA mr.length oc (mr.reverse.map mcell) :: mr.map mrow) := by
 refine enter (N := 20) [(0, .agg (CA fA fs.length fc kiln dA days.length dc).toArray), (1, .slice pA ms.length pc)] Try.func17 rfl Try.ntmps17 rfl rfl (zD (zB (kA rfl rfl ?_)))
 intro b2
 refine zE rfl rfl (zE rfl rfl (zE rfl rfl (zA (zC (zD (zD (zB (jE rfl rfl F.agg27 F.ti27 ?_))))))))
 refine jM (v := .int .i64 0) (vs := [_]) rfl rfl F.ent43 (fun a w ha => by
  have h := zCj (fA := fA) (dA := dA) (fc := fc) (dc := dc) (fs := fs.map Flt.toZ) (kiln := (kiln : Int)) (days := toZs days) (by have := hc.f3; simp; omega) (by have := hc.d4; simp [toZs]; omega) w (RdL.mapped Flt.toZ (hF.later ha.below) (fun _ => rfl)) (RdL.mapped (fun (n : Nat) => (n : Int)) (hD.later ha.below) (fun _ => rfl))
  rw [chk0 hc] at h
  simpa [toZs] using h) ?_
 refine zE rfl rfl (zA (zC (zD (zB (zF rfl rfl (zI rfl rfl rfl qO ?_))))))
 refine zA (zC (zN rfl (fun hc0 => ?_) (fun hc0 => ?_)))
 ·exact absurd rfl hc0
  done
 ·refine zQ (zC (zD (zB (jE rfl rfl F.agg27 F.ti27 (kG (vs := [(0, _)]) (l' := [_, _, _]) rfl rfl F.ti77 F.pl77 (.cons rfl rfl (.nil _)) rfl (zF rfl rfl ?_))))))
  refine qK (X := Option Addr × Nat × List Meta) (vs := [_, _]) (p := fun g => g.2.2.reverse.map (·.2.2) = (workE fs kiln days (ms.map (·.2.2))).2.1) (val := fun g => .tuple #[.slice g.1 g.2.2.length g.2.1, .int .i64 (((workE fs kiln days (ms.map (·.2.2))).2.2 : Nat) : Int), .int .i64 (((workE fs kiln days (ms.map (·.2.2))).1 : Nat) : Int)]) (rs := fun g => .row 22 1 g.1 g.2.2.length g.2.1 (g.2.2.reverse.map mcell) :: g.2.2.map mrow) rfl rfl F.ent51 (fun a w ha => (zU2 hc hml0 hms w (hF.later ha.below) (hD.later ha.below) (hP.later ha.below)).mono (fun e w' h => by
   obtain ⟨oA, oc, mr, h1, h2, h3⟩ := h
   exact ⟨(oA, oc, mr), h1, h2, h3⟩)) ?_
  rintro ⟨oA, oc, mr⟩ hmr
  dsimp only [List.cons_append, List.nil_append] at hmr ⊢
  exact zW rfl rfl rfl (zW rfl rfl rfl (zW rfl rfl rfl (zE rfl rfl (zE rfl rfl (zE rfl rfl (zA (zC (zY (jJ rfl (fun a w ha => xL rfl rfl rfl rfl ha) (fun a w ha => ⟨oA, oc, mr, hmr, rfl, ha.grown (.cons_cons _ (List.sublist_append_left ..))⟩))))))))))

end Go.Proofs.Yteppiphdbondeaa.N
namespace Go.Proofs.Yteppiphdbondeaa.N
open Go Go.RowKit Go.Proofs
set_option linter.unusedSectionVars false
def alwF (f day : Nat) (bu : Bool) (d : Nat) (acts : List Nat) : Bool := decide (d ≠ day) || (decide (acts.getD f 0 = 3) == bu)
theorem zMd {P : Program} {t : TypeId} (ht : P.underlying t = some .bool) (u v : Bool) (x y : Operand) (w : World) : (do eqGuard .eql t x y (.bool u) (.bool v); binOp .eql t (.bool u) (.bool v) : Sem Value).run P w = .ok (.bool (u == v)) w := by
 have hg : (eqGuard .eql t x y (.bool u) (.bool v)).run P w = .ok () w := by simp [eqGuard]
 have hb : (binOp .eql t (.bool u) (.bool v)).run P w = .ok (.bool (u == v)) w := by
  show (do pure (.bool (<- Op.equal t (.bool u) (.bool v))) : Sem Value).run P w = _
  have he : (Op.equal t (.bool u) (.bool v)).run P w = .ok (u == v) w := by
   show (Op.equalIn (9999 + 1) t (.bool u) (.bool v)).run P w = _
   unfold Op.equalIn
   simp only [Sem.run_bind, run_underlying ht, Result.andThen_ok]
   simp
  simp only [Sem.run_bind, he, Result.andThen_ok, Sem.run_pure]
 simp only [Sem.run_bind, hg, Result.andThen_ok, hb]
def firS (fA dA : Option Addr) (fc dc kiln : Nat) (fs : List Flt) (days : List Nat) (f day : Nat) (bu : Bool) (b6 b5 b7 : Nat) : Srch := ⟨fA, dA, fc, dc, kiln, fs, days, 74, 67, [.pointer (some ⟨b6, 0, none⟩), .pointer (some ⟨b5, 0, none⟩), .pointer (some ⟨b7, 0, none⟩)], [], alwF f day bu, fun _ => true⟩
def bstF (fs : List Flt) (kiln : Nat) (days : List Nat) (f day : Nat) (bu : Bool) : Oc := bstO (alwF f day bu) (fun _ => true) fs kiln days days.length (start fs)

theorem zJv {w : World} {p : Addr} {v : Value} (h : w.cell? p = some v) : p.block < w.heap.size := by
 rcases Nat.lt_or_ge p.block w.heap.size with h1 | h1
 ·exact h1
 ·unfold World.cell? at h
  rw [Array.getElem?_eq_none h1] at h
  simp at h
def verdO (a b : Oc) : Nat × Nat :=
 if a.is = false ∧ b.is = false then (0, 11)
 else if a.is = false ∨ (b.is = true ∧ b.f < a.f) then (2, 0)
 else if b.is = false ∨ (a.is = true ∧ a.f < b.f) then (1, 0) else (3, 0)
end Go.Proofs.Yteppiphdbondeaa.N
namespace Go.Proofs.Yteppiphdbondeaa.N
open Go Go.RowKit Go.Proofs
set_option linter.unusedSectionVars false
variable [I : Sys]

variable {b5 b6 b7 day dc f fc kiln : Nat} {bu : Bool} {dA fA : Option Addr} {days : List Nat} {fs : List Flt}
theorem zAv (k : Nat) (hk : k <= 3) (w : World) : Calls Try.prog 54 #[.int .i64 (k : Int)] w fun e w' => e = .returned (.int .i64 (if k = 3 then 3 else if k = 2 then 1 else 2)) ∧ Grew w w' [] := by
 refine enter (N := 9) [(0, .int .i64 (k : Int))] Try.func54 rfl Try.ntmps54 rfl rfl (zD (zB (zE rfl rfl (zA (zC (zD (zD (zB (zF rfl rfl (zI (v := .int .i64 (3 - (k : Int))) rfl rfl rfl (fun w => xZ w (zT _ om om)) (zA (zC (zS (zD (zB (zI rfl rfl rfl jY ?_))))))))))))))))
 refine zE rfl rfl (zA (zC (zN rfl (fun hc0 => ?_) (fun hc0 => ?_))))
 ·exact zD (zB (zE rfl rfl (zA (zC (zY (jW (jB (jJ rfl (fun a w ha => jO rfl rfl ha) (fun a w ha => ⟨by rw [if_pos om], ha.grown nsl⟩)))))))))
 ·refine zD (zB (zI rfl rfl rfl jY ?_))
  refine zE rfl rfl (zA (zC (zN rfl (fun hc1 => ?_) (fun hc1 => ?_))))
  ·exact zD (zB (zE rfl rfl (zA (zC (zY (jW (jB (jJ rfl (fun a w ha => jO rfl rfl ha) (fun a w ha => ⟨by rw [if_neg om, if_pos om], ha.grown nsl⟩)))))))))
  ·exact zQ (zJ (zC (zD (zB (zE rfl rfl (zA (zC (zY (jJ rfl (fun a w ha => jO rfl rfl ha) (fun a w ha => ⟨by rw [if_neg om, if_neg om], ha.grown nsl⟩))))))))))

theorem zT0 {A : Option Addr} {c d : Nat} {acts : List Nat} (hf : f < acts.length) (hl : acts.length <= 3) (w : World) (hA : RdL ncell 1 w A acts) (h6 : w.cell? ⟨b6, 0, none⟩ = some (.int .i64 (day : Int))) (h5 : w.cell? ⟨b5, 0, none⟩ = some (.int .i64 (f : Int))) (h7 : w.cell? ⟨b7, 0, none⟩ = some (.bool bu)) : Calls Try.prog 74 #[.int .i64 (d : Int), .slice A acts.length c, pt b6, pt b5, pt b7] w fun e w' => e = .returned (.bool (alwF f day bu d acts)) ∧ Grew w w' [] := by
 obtain ⟨b, o, hA0, hb, hcell⟩ := hA om
 obtain ⟨x, hx⟩ : ∃ x, acts[f]? = some x := ⟨_, List.getElem?_eq_getElem hf⟩
 refine enter (N := 20) [(0, .int .i64 (d : Int)), (1, .slice A acts.length c), (2, pt b6), (3, pt b5), (4, pt b7)] Try.func74 rfl Try.ntmps74 rfl rfl (zD (zB (zE rfl rfl (zA (zC (zD (kD [] F.follows 13 rfl [false, false, false, false, false, false, false, false, false, false, false, false, false] rfl (zG 0 rfl rfl rfl (zP rfl) (zG 1 rfl rfl rfl (jP (v := .int .i64 (day : Int)) rfl F.one3 (fun a w ha => ha.old h6 (zJv h6))) (zG 2 rfl rfl rfl (kS rfl rfl qO) (zG 3 rfl rfl rfl (zP rfl) ?_)))))))))))
 refine zRn (t := 11) rfl (fun hg11 => ?_) (fun hg11 => ?_)
 ·exact jC 4 rfl rfl rfl rfl rfl kr kr kr sbl rfl (jC 5 rfl rfl rfl rfl rfl kr kr kr sbl rfl (jC 6 rfl rfl rfl rfl rfl kr kr kr sbl rfl (jC 7 rfl rfl rfl rfl rfl kr kr kr sbl rfl (jC 8 rfl rfl rfl rfl rfl kr kr kr sbl rfl (jC 9 rfl rfl rfl rfl rfl kr kr kr sbl rfl (jC 10 rfl rfl rfl rfl rfl kr kr kr sbl rfl (zG 11 rfl rfl rfl (vB rfl rfl) (zG 12 rfl rfl rfl (jZ rfl) (adn (zC (zY (jJ rfl (fun a w ha => jO rfl rfl ha) (fun a w ha => ⟨by unfold alwF; rw [show decide (d ≠ day) = true from by simp; omega]; rfl, ha.grown nsl⟩)))))))))))))
 ·exact zV 4 rfl rfl rfl rfl rfl kr kr kr sbl (zP rfl) rfl (zV 5 rfl rfl rfl rfl rfl kr kr kr sbl (jP (v := .int .i64 (f : Int)) rfl F.one3 (fun a w ha => ha.old h5 (zJv h5))) rfl (zV 6 rfl rfl rfl rfl rfl kr kr kr sbl (kM (j := f) (show _ = some (Value.slice (some ⟨b, o, none⟩) acts.length c) from by rw [<- hA0]; rfl) rfl Try.underlying22 F.ti3 rfl (show f < acts.length by omega)) rfl (zV 7 rfl rfl rfl rfl rfl kr kr kr sbl (jP (v := .int .i64 (x : Int)) rfl F.one3 (fun a w ha => ha.old (hcell f x hx 0 _ rfl) hb)) rfl (zV 8 rfl rfl rfl rfl rfl kr kr kr sbl (kS rfl rfl jY) rfl (zV 9 rfl rfl rfl rfl rfl kr kr kr sbl (jP (v := .bool bu) rfl F.one4 (fun a w ha => ha.old h7 (zJv h7))) rfl (zV 10 rfl rfl rfl rfl rfl kr kr kr sbl (zO6 rfl rfl (zMd Try.underlying4 _ _ _ _)) rfl (zG 11 rfl rfl rfl (vD rfl rfl) (zG 12 rfl rfl rfl (jZ rfl) (adn (zC (zY (jJ rfl (fun a w ha => jO rfl rfl ha) (fun a w ha => ⟨by unfold alwF; rw [List.getD_eq_getElem?_getD, hx, show decide (d ≠ day) = false from by simp; omega]; simp; rw [show decide ((x : Int) = 3) = decide (x = 3) from by rw [decide_eq_decide]; omega], ha.grown nsl⟩)))))))))))))

theorem zX5 (h : ChV fs kiln days) : (firS fA dA fc dc kiln fs days f day bu b6 b5 b7).Ok := ⟨h.f3, h.ff, Nat.le_succ_of_le h.d4, h.dd, jD Try.func74 rfl (by kernel_rfl), jD Try.func67 rfl (by kernel_rfl)⟩
theorem zSu {w : World} (hc : ChV fs kiln days) (hf : f < fs.length) (hF : RdL Flt.cells 4 w fA fs) (hD : RdL ncell 1 w dA days) :
  Stays w.heap.size w [.blk b6 (.cells [.int .i64 (day : Int)].toArray 3 (0, 0)), .blk b5 (.cells [.int .i64 (f : Int)].toArray 3 (0, 0)), .blk b7 (.cells [.bool bu].toArray 4 (0, 0))] (firS fA dA fc dc kiln fs days f day bu b6 b5 b7).Env := fun _ _ _ _ _ w' hr ha => ⟨hF.later ha.below, hD.later ha.below, fun A c d acts hA hl _ => zT0 (by have : acts.length = fs.length := hl; omega) (by have : acts.length = fs.length := hl; have := hc.f3; omega) w' hA (qH (ha.mem_blk (hr (.blk b6 (.cells [.int .i64 (day : Int)].toArray 3 (0, 0))) (by simp))) rfl) (qH (ha.mem_blk (hr (.blk b5 (.cells [.int .i64 (f : Int)].toArray 3 (0, 0))) (by simp))) rfl) (qH (ha.mem_blk (hr (.blk b7 (.cells [.bool bu].toArray 4 (0, 0))) (by simp))) rfl), fun m hm => by
  obtain ⟨a, b, c, x, rfl, _⟩ := hm.form
  exact zRk a b c x w'⟩

set_option maxRecDepth 4000 in
theorem zOx (hc : ChV fs kiln days) (hf : f < fs.length) (w : World) (hF : RdL Flt.cells 4 w fA fs) (hD : RdL ncell 1 w dA days) : Calls Try.prog 53 #[.agg (CA fA fs.length fc kiln dA days.length dc).toArray, .int .i64 (f : Int), .int .i64 (day : Int), .bool bu] w fun e w' => e = .returned (.tuple #[.int .i64 (((bstF fs kiln days f day bu).f : Nat) : Int), .bool (bstF fs kiln days f day bu).is]) ∧ Grew w w' [] := by
 have hm0 : MOk (start fs) := yG hc.f3 hc.ff _ (Nat.le_refl _)
 obtain ⟨x0, x1, x2, xw, hx, hx0, hx1, hx2, hxw⟩ := hm0.form
 refine enter (N := 31) [(0, .agg (CA fA fs.length fc kiln dA days.length dc).toArray), (1, .int .i64 (f : Int)), (2, .int .i64 (day : Int)), (3, .bool bu)] Try.func53 rfl Try.ntmps53 rfl rfl (zD (zB (kA rfl rfl ?_)))
 intro b4
 refine kA rfl rfl ?_
 intro b5
 refine kA rfl rfl ?_
 intro b6
 refine kA rfl rfl ?_
 intro b7
 refine zE rfl rfl (zE rfl rfl (zA (zC (zD (zB (jE rfl rfl F.agg77 F.ti77 (qK (X := Nat × Nat) (vs := [_]) (p := fun _ => True) (val := fun g => .pointer (some ⟨g.1, 0, none⟩)) (rs := fun g => [.blk g.1 (.cells [.slice fA fs.length fc, .int .i64 (kiln : Int), .slice dA days.length dc, .func (.func 66) [].toArray [].toArray, .func (.func 67) [].toArray [].toArray, .map (some g.2)].toArray 101 (0, 0)), .blk g.2 (KS.obj [])]) rfl rfl F.ent48 (fun a w ha => (zGv fA dA fc days.length dc kiln fs w).mono (fun e w' h => by obtain ⟨b, km, h1, h2⟩ := h; exact ⟨(b, km), trivial, h1, h2⟩)) ?_)))))))
 rintro ⟨sb, km⟩ -
 dsimp only [List.cons_append, List.nil_append]
 refine zE rfl rfl (zA (zC (zD (zB (zF rfl rfl (vW (fs := []) (cs := [_, _, _]) rfl rfl rfl (qT rfl rfl (yT rfl rfl F.fi101_1 F.ti97 (zH rfl rfl F.ti97 rfl (zA (zC (zD (zB (zF rfl rfl (zF rfl rfl (qT rfl rfl (yT rfl rfl F.fi101_0 F.ti77 (jE (o := 0) (l := (CA fA fs.length fc kiln dA days.length dc)) rfl rfl F.agg77 F.ti77 (jM (v := .agg (V4 x0 x1 x2 xw).toArray) (vs := [_]) rfl rfl F.ent60 (fun a w ha => (zDz fA dA fc days.length dc kiln fs hc.f3 hc.ff w (hF.later ha.below)).mono (fun e w' h => ⟨h.1.trans (by rw [hx]; rfl), h.2⟩)) (kG (vs := [(0, _), (1, _)]) (l' := [_, _, _, _, _]) rfl rfl F.ti107 F.pl107 (.cons rfl rfl (.cons rfl rfl (.nil _))) rfl ?_))))))))))))))))))))
 refine xB (X := List (Spot × Value)) (first := []) (cap := []) (vs := [_, _]) (p := fun _ => True) (val := fun _ => .agg [.int .i64 ((bstF fs kiln days f day bu).f : Int), .int .i64 ((bstF fs kiln days f day bu).w : Int), .bool (bstF fs kiln days f day bu).is].toArray) (rs := fun kn' => [.blk km (KS.obj kn'), .blk sb (.cells [.slice fA fs.length fc, .int .i64 (kiln : Int), .slice dA days.length dc, .func (.func 74) [].toArray [pt b6, pt b5, pt b7].toArray, .func (.func 67) [].toArray [].toArray, .map (some km)].toArray 101 (0, 0)), .blk b6 (.cells [.int .i64 (day : Int)].toArray 3 (0, 0)), .blk b5 (.cells [.int .i64 (f : Int)].toArray 3 (0, 0)), .blk b7 (.cells [.bool bu].toArray 4 (0, 0)), .blk b4 (.cells (CA fA fs.length fc kiln dA days.length dc).toArray 77 (0, 0))]) rfl rfl rfl F.ent68 (fun a w ha => ?_) ?_
 ·refine (zFr (s := (firS fA dA fc dc kiln fs days f day bu b6 b5 b7)) (zX5 hc) days.length _ _ ([.blk b6 (.cells [.int .i64 (day : Int)].toArray 3 (0, 0)), .blk b5 (.cells [.int .i64 (f : Int)].toArray 3 (0, 0)), .blk b7 (.cells [.bool bu].toArray 4 (0, 0)), .blk b4 (.cells (CA fA fs.length fc kiln dA days.length dc).toArray 77 (0, 0))]) _ _ _ _ _ [] km sb 0 x0 x1 x2 xw (by show 0 + days.length = days.length; omega) ⟨rfl, by simp; omega, hxw⟩ (KnOk.nil _) ((zSu hc hf hF hD).more (fun r hr => by simp at hr ⊢; rcases hr with h | h | h <;> simp [h])) (ha.pck pkk)).mono ?_
  rintro e w' ⟨kn', h1, h2, h3⟩
  exact ⟨kn', trivial, h2.trans (by unfold bstF; rw [hx]; rfl), h3.pck pkk⟩
 rintro kn1 -
 dsimp only
 generalize bstF fs kiln days f day bu = o0
 refine zX rfl F.ti111 ?_
 intro b11
 exact zH rfl rfl F.ti111 rfl (zA (zC (zD (kD [] F.follows 7 rfl [false, false, false, false, false, false, false] rfl (zG 0 rfl rfl rfl (jA rfl F.fi111_0 F.ti109) (zG 1 rfl rfl rfl (jA rfl F.fi109_0 F.ti3) (zG 2 rfl rfl rfl (kH rfl F.one3) (zG 3 rfl rfl rfl (jA rfl F.fi111_1 F.ti4) (zG 4 rfl rfl rfl (kH rfl F.one4) (zG 5 rfl rfl rfl (jZ rfl) (zG 6 rfl rfl rfl (jZ rfl) (adn (zC (zY (jJ rfl (fun a w ha => vT rfl rfl rfl ha) (fun a w ha => ⟨rfl, ha.grown nsl⟩))))))))))))))))

end Go.Proofs.Yteppiphdbondeaa.N
namespace Go.Proofs.Yteppiphdbondeaa.N
open Go Go.RowKit Go.Proofs
set_option linter.unusedSectionVars false
variable [I : Sys]
theorem F.ent53 : Enters Try.prog 53 := jD Try.func53 rfl (by kernel_rfl)
theorem F.ent54 : Enters Try.prog 54 := jD Try.func54 rfl (by kernel_rfl)
theorem zBx {fA dA : Option Addr} {fc dc kiln f day : Nat} {fs : List Flt} {days : List Nat} (hc : ChV fs kiln days) (hf : f < fs.length) (hd : day < days.length) (w : World) (hF : RdL Flt.cells 4 w fA fs) (hD : RdL ncell 1 w dA days) : Calls Try.prog 19 #[.agg (CA fA fs.length fc kiln dA days.length dc).toArray, .int .i64 (f : Int), .int .i64 (day : Int)] w fun e w' => e = .returned (.tuple #[.int .i64 (((verdO (bstF fs kiln days f day true) (bstF fs kiln days f day false)).1 : Nat) : Int), .int .i64 (((verdO (bstF fs kiln days f day true) (bstF fs kiln days f day false)).2 : Nat) : Int)]) ∧ Grew w w' [] := by
 refine enter (N := 85) [(0, .agg (CA fA fs.length fc kiln dA days.length dc).toArray), (1, .int .i64 (f : Int)), (2, .int .i64 (day : Int))] Try.func19 rfl Try.ntmps19 rfl rfl (zD (zB (kA rfl rfl ?_)))
 intro b3
 refine zE rfl rfl (zE rfl rfl (zA (zC (zD (zD (zB (jE rfl rfl F.agg27 F.ti27 ?_)))))))
 refine jM (v := .int .i64 0) (vs := [_]) rfl rfl F.ent43 (fun a w ha => by
  have h := zCj (fA := fA) (dA := dA) (fc := fc) (dc := dc) (fs := fs.map Flt.toZ) (kiln := (kiln : Int)) (days := toZs days) (by have := hc.f3; simp; omega) (by have := hc.d4; simp [toZs]; omega) w (RdL.mapped Flt.toZ (hF.later ha.below) (fun _ => rfl)) (RdL.mapped (fun (n : Nat) => (n : Int)) (hD.later ha.below) (fun _ => rfl))
  rw [chk0 hc] at h
  simpa [toZs] using h) ?_
 refine zE rfl rfl (zA (zC (zD (zB (zF rfl rfl (zI rfl rfl rfl qO ?_))))))
 refine zA (zC (zN rfl (fun hc0 => ?_) (fun hc0 => ?_)))
 ·exact absurd rfl hc0
  done
 ·refine zQ (zC (zD (zD (zB (zF rfl rfl (zL rfl rfl F.fi27_0 F.ti25 (zR rfl rfl F.one25 (jX rfl rfl Try.underlying25 (zI (v := .int .i64 ((fs.length : Int) - 1)) rfl rfl rfl (fun w => xZ w (zT _ (by have := hc.f3; omega) (by have := hc.f3; omega))) (jM (v := .bool true) (vs := [_, _, _]) rfl rfl F.ent52 (fun a w ha => (wB (f : Int) 0 ((fs.length : Int) - 1) w).mono (fun e w' h => ⟨h.1.trans (by rw [show btw (f : Int) 0 ((fs.length : Int) - 1) = true from by unfold btw; simp; omega]), h.2⟩)) (qF rfl rfl (zF rfl rfl (zM rfl rfl (zF rfl rfl (zM rfl rfl (zL rfl rfl F.fi27_2 F.ti22 (zM rfl rfl (zR rfl rfl F.one22 (zM rfl rfl (jX rfl rfl Try.underlying22 (zM rfl rfl (zI (v := .int .i64 ((days.length : Int) - 1)) rfl rfl rfl (fun w => xZ w (zT _ (by have := hc.d4; omega) (by have := hc.d4; omega))) (zM rfl rfl (jM (v := .bool true) (vs := [_, _, _]) rfl rfl F.ent52 (fun a w ha => (wB (day : Int) 0 ((days.length : Int) - 1) w).mono (fun e w' h => ⟨h.1.trans (by rw [show btw (day : Int) 0 ((days.length : Int) - 1) = true from by unfold btw; simp; omega]), h.2⟩)) (zM rfl rfl (qF rfl rfl (jQ rfl rfl rfl (zA (zC (kI rfl (zQ (zC (zD (zB (jE rfl rfl F.agg27 F.ti27 (kG (vs := [(0, _)]) (l' := [_, _, _]) rfl rfl F.ti77 F.pl77 (.cons rfl rfl (.nil _)) rfl (zF rfl rfl (zF rfl rfl (jM (v := .tuple #[.int .i64 (((bstF fs kiln days f day true).f : Nat) : Int), .bool (bstF fs kiln days f day true).is]) (vs := [_, _, _, _]) rfl rfl F.ent53 (fun a w ha => zOx (dc := dc) (fc := fc) (bu := true) hc hf w (hF.later ha.below) (hD.later ha.below)) (zF rfl rfl (zW rfl rfl rfl (zW rfl rfl rfl (zE rfl rfl (zE rfl rfl (zA (zC (zD (zB (jE rfl rfl F.agg27 F.ti27 (kG (vs := [(0, _)]) (l' := [_, _, _]) rfl rfl F.ti77 F.pl77 (.cons rfl rfl (.nil _)) rfl ?_))))))))))))))))))))))))))))))))))))))))))))))))))
  refine zF rfl rfl (zF rfl rfl (jM (v := .tuple #[.int .i64 (((bstF fs kiln days f day false).f : Nat) : Int), .bool (bstF fs kiln days f day false).is]) (vs := [_, _, _, _]) rfl rfl F.ent53 (fun a w ha => zOx (dc := dc) (fc := fc) (bu := false) hc hf w (hF.later ha.below) (hD.later ha.below)) (zF rfl rfl (zW rfl rfl rfl (zW rfl rfl rfl (zE rfl rfl (zE rfl rfl (zA (zC (zD (zD ?_)))))))))))
  generalize (bstF fs kiln days f day true) = o1
  generalize (bstF fs kiln days f day false) = o2
  obtain ⟨f1, w1, i1⟩ := o1
  obtain ⟨f2, w2, i2⟩ := o2
  dsimp only
  rcases i1 with _ | _ <;> rcases i2 with _ | _
  ·exact zB (zF rfl rfl (qF rfl rfl (zF rfl rfl (zM rfl rfl (zF rfl rfl (zM rfl rfl (qF rfl rfl (jI rfl rfl rfl (zA (zC (kX rfl (zD (zB (zE rfl rfl (zE rfl rfl (zA (zC (zY (jB (jJ rfl (fun a w ha => vT rfl rfl rfl ha) (fun a w ha => ⟨by rfl, ha.grown nsl⟩)))))))))))))))))))))
  ·exact zB (zF rfl rfl (qF rfl rfl (zF rfl rfl (zM rfl rfl (zF rfl rfl (zM rfl rfl (qF rfl rfl (jI rfl rfl rfl (zA (zC (kI rfl (zQ (zC (zD (zB (zE rfl rfl (zA (zC (zD (zS (zD (zS (zD (zS (zD (zD (zD (zB (zF rfl rfl (qF rfl rfl (zF rfl rfl (jH rfl rfl rfl (jH rfl rfl rfl (kQ rfl rfl rfl (kQ rfl rfl rfl (kQ rfl rfl rfl (jH rfl rfl rfl (jI rfl rfl rfl (zE rfl rfl (zA (zC (kX rfl (jU (zO (zO (jF (zC (zB (zF rfl rfl (zI (v := .int .i64 ((2 : Nat) : Int)) rfl rfl rfl (fun w => xZ w (zT _ om om)) (zE rfl rfl (zA (zJ (zC (zD (zB (zF rfl rfl (zI (v := .int .i64 ((1 : Nat) : Int)) rfl rfl rfl (fun w => xZ w (zT _ om om)) (zE rfl rfl (zA (zC (jU (jF (zC (zD (zB (zF rfl rfl (jM (v := .int .i64 2) (vs := [_]) rfl rfl F.ent54 (fun a w ha => (zAv 1 om w).mono (fun e w' h => ⟨h.1.trans rfl, h.2⟩)) (zE rfl rfl (zE rfl rfl (zA (zC (zY (jJ rfl (fun a w ha => vT rfl rfl rfl ha) (fun a w ha => ⟨by unfold verdO; simp, ha.grown nsl⟩)))))))))))))))))))))))))))))))))))))))))))))))))))))))))))))))))))))))))))
  ·exact zB (zF rfl rfl (qF rfl rfl (zF rfl rfl (jH rfl rfl rfl (jH rfl rfl rfl (jQ rfl rfl rfl (zA (zC (kI rfl (zQ (zC (zD (zB (zE rfl rfl (zA (zC (zD (zS (zD (zS (zD (zS (zD (zD (zD (zB (zF rfl rfl (qF rfl rfl (zF rfl rfl (zM rfl rfl (zF rfl rfl (zM rfl rfl (zF rfl rfl (jH rfl rfl rfl (jH rfl rfl rfl (jH rfl rfl rfl (zM rfl rfl (jQ rfl rfl rfl (jQ rfl rfl rfl (zE rfl rfl (zA (zC (kI rfl (zQ (zC (zD (zB (zF rfl rfl (qF rfl rfl (zF rfl rfl (jH rfl rfl rfl (jH rfl rfl rfl (kQ rfl rfl rfl (kQ rfl rfl rfl (kQ rfl rfl rfl (jH rfl rfl rfl (jI rfl rfl rfl (zE rfl rfl (zA (zC (kX rfl (jU (zO (yK rfl (zO (jF (zC (zD (zB (zF rfl rfl (zI (v := .int .i64 ((2 : Nat) : Int)) rfl rfl rfl (fun w => xZ w (zT _ om om)) (zE rfl rfl (zA (zC (jU (jF (zC (zD (zB (zF rfl rfl (jM (v := .int .i64 1) (vs := [_]) rfl rfl F.ent54 (fun a w ha => (zAv 2 om w).mono (fun e w' h => ⟨h.1.trans rfl, h.2⟩)) (zE rfl rfl (zE rfl rfl (zA (zC (zY (jJ rfl (fun a w ha => vT rfl rfl rfl ha) (fun a w ha => ⟨by unfold verdO; simp, ha.grown nsl⟩))))))))))))))))))))))))))))))))))))))))))))))))))))))))))))))))))))))))))))))))))))))))
  ·refine zB (zF rfl rfl (qF rfl rfl (zF rfl rfl (jH rfl rfl rfl (jH rfl rfl rfl (jQ rfl rfl rfl (zA (zC (kI rfl (zQ (zC (zD (zB (zE rfl rfl (zA (zC (zD (zS (zD (zS (zD (zS (zD (zD (zD (zB (zF rfl rfl (qF rfl rfl (zF rfl rfl (zM rfl rfl (zF rfl rfl (zM rfl rfl (zF rfl rfl (zM rfl rfl (zF rfl rfl (zM rfl rfl (zF rfl rfl (zM rfl rfl (zI rfl rfl rfl jR ?_)))))))))))))))))))))))))))))))))))))))
   refine zM rfl rfl (jI rfl rfl rfl (jQ rfl rfl rfl (zE rfl rfl (zA (zC (zN rfl (fun hc3 => ?_) (fun hc3 => ?_)))))))
   ·exact jU (zO (zO (jF (zC (zB (zF rfl rfl (zI (v := .int .i64 ((2 : Nat) : Int)) rfl rfl rfl (fun w => xZ w (zT _ om om)) (zE rfl rfl (zA (zJ (zC (zD (zB (zF rfl rfl (zI (v := .int .i64 ((1 : Nat) : Int)) rfl rfl rfl (fun w => xZ w (zT _ om om)) (zE rfl rfl (zA (zC (jU (jF (zC (zD (zB (zF rfl rfl (jM (v := .int .i64 2) (vs := [_]) rfl rfl F.ent54 (fun a w ha => (zAv 1 om w).mono (fun e w' h => ⟨h.1.trans rfl, h.2⟩)) (zE rfl rfl (zE rfl rfl (zA (zC (zY (jJ rfl (fun a w ha => vT rfl rfl rfl ha) (fun a w ha => ⟨by have h : f2 < f1 := om; simp [verdO, h], ha.grown nsl⟩))))))))))))))))))))))))))))))))
   ·refine zQ (zC (zD (zB (zF rfl rfl (qF rfl rfl (zF rfl rfl (zM rfl rfl (zF rfl rfl (zM rfl rfl (zF rfl rfl (zM rfl rfl (zF rfl rfl (zM rfl rfl (zF rfl rfl (zM rfl rfl (zI rfl rfl rfl jR ?_))))))))))))))))
    refine zM rfl rfl (jI rfl rfl rfl (jQ rfl rfl rfl (zE rfl rfl (zA (zC (zN rfl (fun hc4 => ?_) (fun hc4 => ?_)))))))
    ·exact jU (zO (yK rfl (zO (jF (zC (zD (zB (zF rfl rfl (zI (v := .int .i64 ((2 : Nat) : Int)) rfl rfl rfl (fun w => xZ w (zT _ om om)) (zE rfl rfl (zA (zC (jU (jF (zC (zD (zB (zF rfl rfl (jM (v := .int .i64 1) (vs := [_]) rfl rfl F.ent54 (fun a w ha => (zAv 2 om w).mono (fun e w' h => ⟨h.1.trans rfl, h.2⟩)) (zE rfl rfl (zE rfl rfl (zA (zC (zY (jJ rfl (fun a w ha => vT rfl rfl rfl ha) (fun a w ha => ⟨by have h : ¬ f2 < f1 := om; have h2 : f1 < f2 := om; simp [verdO, h, h2], ha.grown nsl⟩))))))))))))))))))))))))))
    ·exact zQ (zC (jU (yK rfl (zO (yK rfl (zO (jF (zC (zD (zB (zF rfl rfl (jM (v := .int .i64 3) (vs := [_]) rfl rfl F.ent54 (fun a w ha => (zAv 3 om w).mono (fun e w' h => ⟨h.1.trans rfl, h.2⟩)) (zE rfl rfl (zE rfl rfl (zA (zC (zY (jJ rfl (fun a w ha => vT rfl rfl rfl ha) (fun a w ha => ⟨by have h : ¬ f2 < f1 := om; have h2 : ¬ f1 < f2 := om; simp [verdO, h, h2], ha.grown nsl⟩)))))))))))))))))))

end Go.Proofs.Yteppiphdbondeaa.N
namespace Go.Proofs.Yteppiphdbondeaa.N
open Go Go.RowKit Go.Proofs
set_option linter.unusedSectionVars false
variable {a b c m x0 x1 x2 xw z0 z1 z2 zw : Nat}
def agnL (fst m : Mor) : Bool := ((List.range 3).all fun i => decide (fst.s.getD i 0 <= m.s.getD i 0)) && decide (m.w &&& (7 - fst.w) = 0)
theorem andNot8 : ∀ a < 8, ∀ b < 8, IntKind.u8.wrap ((BitVec.ofInt 8 ((a : Nat) : Int) &&& ~~~ BitVec.ofInt 8 ((b : Nat) : Int)).toNat) = ((a &&& (7 - b) : Nat) : Int) := by decide
theorem zLs {P : Program} {k : TypeId} (hm : m <= 10000) (hk : P.keyTypeAt m k = true) (hw : (match P.underlying k with | some (.array _ _) | some (.struct _) => true | _ => false) = true) (hgt : P.eqGuardType P.depth k = false)
  (law : WideMaps.KeyLaw P k) {xs ys : Array Value} {a b : Go.Lit} (ha : keyOf P k (.agg xs) = some a) (hb : keyOf P k (.agg ys) = some b) (x y : Operand) (w : World) :
  ∃ r, (do eqGuard .eql k x y (.agg xs) (.agg ys); binOp .eql k (.agg xs) (.agg ys) : Sem Value).run P w = .ok (.bool r) w ∧ (r = true ↔ Value.agg xs = .agg ys) := by
 obtain ⟨r, hr, hiff⟩ := run_equal_deep (P := P) w (m := m) hm (k := k) hk hw ha hb
 have hg : (eqGuard .eql k x y (.agg xs) (.agg ys)).run P w = .ok () w := by
  have hp : (program : Sem Program).run P w = .ok P w := rfl
  simp [eqGuard, Sem.run_bind, hp, hgt]
 have hb' : (binOp .eql k (.agg xs) (.agg ys)).run P w = .ok (.bool r) w := by
  show (do pure (.bool (<- Op.equal k (.agg xs) (.agg ys))) : Sem Value).run P w = _
  simp only [Sem.run_bind, hr, Result.andThen_ok, Sem.run_pure]
 refine ⟨r, by simp only [Sem.run_bind, hg, Result.andThen_ok, hb'], ?_⟩
 rw [hiff]
 constructor
 ·intro e
  exact law.inj (by rw [ha, e]) hb
 ·intro e
  rw [e] at ha
  rw [ha] at hb
  exact Option.some.inj hb
theorem key92 (ha : a < 2 ^ 63) (hb : b < 2 ^ 63) (hc : c < 2 ^ 63) : ∃ x, keyOf Try.prog 92 (.agg [.int .i64 (a : Int), .int .i64 (b : Int), .int .i64 (c : Int)].toArray) = some x := by
 unfold keyOf
 rw [Try.underlying92]
 have hk : Try.prog.keyType 92 = true := by kernel_rfl
 simp only [hk, Bool.true_and]
 have hf : (Value.agg [.int .i64 (a : Int), .int .i64 (b : Int), .int .i64 (c : Int)].toArray).formed Try.prog 92 = true := by simp [Value.formed, Try.underlying92, co92]
 rw [if_pos hf, tszC]
 generalize Try.prog.types.size - 4 = D
 have := zMf ha hb hc (D + 1 + 1 + 1)
 rw [show (Value.agg [.int .i64 (a : Int), .int .i64 (b : Int), .int .i64 (c : Int)].toArray).cells.toList = [.int .i64 (a : Int), .int .i64 (b : Int), .int .i64 (c : Int)] from rfl, this]
 exact ⟨_, rfl⟩
theorem arrLaw : WideMaps.KeyLaw Try.prog 92 := deep_law (m := 4) (by omega) (by kernel_rfl) (by kernel_rfl) (by rw [Try.underlying92])
theorem zLo {x y z : Nat} (ha : a < 2 ^ 63) (hb : b < 2 ^ 63) (hc : c < 2 ^ 63) (hx : x < 2 ^ 63) (hy : y < 2 ^ 63) (hz : z < 2 ^ 63) (p q : Operand) (w : World) :
  (do eqGuard .eql 92 p q (.agg [.int .i64 (a : Int), .int .i64 (b : Int), .int .i64 (c : Int)].toArray) (.agg [.int .i64 (x : Int), .int .i64 (y : Int), .int .i64 (z : Int)].toArray); binOp .eql 92 (.agg [.int .i64 (a : Int), .int .i64 (b : Int), .int .i64 (c : Int)].toArray) (.agg [.int .i64 (x : Int), .int .i64 (y : Int), .int .i64 (z : Int)].toArray) : Sem Value).run Try.prog w = .ok (.bool (decide (a = x ∧ b = y ∧ c = z))) w := by
 obtain ⟨k1, hk1⟩ := key92 ha hb hc
 obtain ⟨k2, hk2⟩ := key92 hx hy hz
 obtain ⟨r, h1, h2⟩ := zLs (P := Try.prog) (m := 4) om (k := 92) kr (by rw [Try.underlying92]) kr arrLaw hk1 hk2 p q w
 have e : r = decide (a = x ∧ b = y ∧ c = z) := by
  rw [Bool.eq_iff_iff, h2, decide_eq_true_iff]
  simp
  omega
 rw [<- e]
 exact h1
instance TB.three (f g h : Int) (u : Value) : TB (.agg [.int .i64 f, .int .i64 g, .int .i64 h].toArray) u := TB.agg (by
 intro x hx
 simp at hx
 rcases hx with rfl | rfl | rfl <;> exact .int _ _) u
def agnS (fA dA : Option Addr) (fc dc kiln : Nat) (fs : List Flt) (days : List Nat) (b7 : Nat) : Srch := ⟨fA, dA, fc, dc, kiln, fs, days, 66, 61, [], [.pointer (some ⟨b7, 0, none⟩)], fun _ _ => true, agnL (start fs)⟩
def bstG (fs : List Flt) (kiln : Nat) (days : List Nat) : Oc := (agnS none none 0 0 kiln fs days 0).bst days.length (start fs)
def planG (fs : List Flt) (kiln : Nat) (days : List Nat) : List (List Nat) := (agnS none none 0 0 kiln fs days 0).planL days.length (start fs)
theorem zLv {fA dA : Option Addr} {fc dc kiln b7 : Nat} {fs : List Flt} {days : List Nat} : ∀ n m, (agnS fA dA fc dc kiln fs days b7).planL n m = (agnS none none 0 0 kiln fs days 0).planL n m
 | 0, _ => rfl
 | n + 1, _m => congrArg (List.cons _) (zLv n _)
theorem zRz (h0 : x0 <= z0) (h1 : x1 <= z1) (h2 : x2 <= z2) : agnL ⟨[x0, x1, x2], xw⟩ ⟨[z0, z1, z2], zw⟩ = decide (((zw &&& (7 - xw) : Nat) : Int) = 0) := by
 unfold agnL
 have : (List.range 3).all (fun i => decide ([x0, x1, x2].getD i 0 <= [z0, z1, z2].getD i 0)) = true := by
  rw [List.all_eq_true]
  intro i hi
  have : i < 3 := List.mem_range.1 hi
  rcases i with _ | _ | _ | i <;> simp <;> omega
 rw [this, Bool.true_and, decide_eq_decide]
 exact (Int.natCast_eq_zero (n := zw &&& (7 - xw))).symm
theorem zQ0 (a b c : Nat) (k : Nat) (hk : k < 3) : [Value.int .i64 (a : Int), .int .i64 (b : Int), .int .i64 (c : Int)][k]? = some (.int .i64 (([a, b, c].getD k 0 : Nat) : Int)) := by
 rcases k with _ | _ | _ | k
 ·rfl
 ·rfl
 ·rfl
 ·omega
theorem zYp {k : Nat} (hk : k < 3) (h : [z0, z1, z2].getD k 0 < [x0, x1, x2].getD k 0) : agnL ⟨[x0, x1, x2], xw⟩ ⟨[z0, z1, z2], zw⟩ = false := by
 unfold agnL
 have : (List.range 3).all (fun i => decide ([x0, x1, x2].getD i 0 <= [z0, z1, z2].getD i 0)) = false := by
  rw [List.all_eq_false]
  exact ⟨k, List.mem_range.2 hk, by simpa using h⟩
 rw [this, Bool.false_and]
section
variable [I : Sys] {C : Ctx} {fr : List (Nat × Value)} {hp : List Res} {ops : Array Oper} {Q : Exit -> Act -> World -> Prop} {rest : List Oper} {d : Nat} {ty : TypeId} {pos : String} {after : Array Edge}
theorem zMu {x y : Operand} {t e : TypeId} {cs : List Value} {v : Value} {len j : Nat} {kd : IntKind} {i : Int} {z : Value} (hd : Nat.blt d C.N = true) (hx : ev fr x = some (.agg cs.toArray)) (hy : ev fr y = some (.int kd i))
  (ht : C.P.underlying t = some (.array len e)) (ho : One C.P e) (he : TI C.P e z 1 m) (hi : i = (j : Int)) (hj : j < len) (hv : cs[j]? = some v)
  (k : Lst C ops Q rest ((d, v) :: fr) hp) : Lst C ops Q (⟨some d, .index t x y, ty, pos, after, none⟩ :: rest) fr hp := by
 obtain ⟨i', hi', _, hs, _⟩ := he
 subst hi
 refine kT _ hd (fun _ _ _ => zLk ..) (fun a w ha => ⟨w, ?_, ha⟩) k
 have h1 : (isAgg e).run C.P w = .ok false w := yU ho.1 ho.2 w
 have h2 : (sizeOf e).run C.P w = .ok 1 w := by simp [sizeOf, typeInfo, hi', hs]
 have h3 : (Instr.index t (.agg cs.toArray) (.int kd (j : Int))).run C.P w = .ok v w := by
  have hb : (0 <= (j : Int) ∧ (j : Int) < (len : Int)) := by omega
  have hv' : cs.toArray[j]? = some v := by simpa using hv
  simp only [Instr.index, asIntOf, Sem.run_bind, Sem.run_pure, Result.andThen_ok, run_underlying ht, if_pos hb, h2, part, h1, Int.toNat_natCast, Nat.mul_one, hv']
  simp
 simp only [execOp, ha.eval hx, ha.eval hy, Sem.run_bind, h3, Result.andThen_ok, Sem.run_pure]
end
end Go.Proofs.Yteppiphdbondeaa.N
namespace Go.Proofs.Yteppiphdbondeaa.N
open Go Go.RowKit Go.Proofs
set_option linter.unusedSectionVars false
variable [I : Sys]
theorem F.agg92 : aggB Try.prog 92 = true := by unfold aggB; rw [Try.underlying92]
theorem zVb {z0 z1 z2 zw x0 x1 x2 xw b7 : Nat} (hz0 : z0 <= 4) (hz1 : z1 <= 4) (hz2 : z2 <= 4) (hzw : zw < 8) (hx0 : x0 <= 4) (hx1 : x1 <= 4) (hx2 : x2 <= 4) (hxw : xw < 8) (w : World) (hb7 : b7 < w.heap.size) (hc7 : ∀ (j : Nat) (v : Value), (V4 x0 x1 x2 xw)[j]? = some v -> w.cell? ⟨b7, j, none⟩ = some v) : Calls Try.prog 61 #[.agg (V4 z0 z1 z2 zw).toArray, pt b7] w fun e w' => e = .returned (.bool (agnL (⟨[x0, x1, x2], xw⟩ : Mor) (⟨[z0, z1, z2], zw⟩ : Mor))) ∧ Grew w w' [] := by
 refine enter (N := 36) [(0, .agg (V4 z0 z1 z2 zw).toArray), (1, pt b7)] Try.func61 rfl Try.ntmps61 rfl rfl (zD (zB (kA rfl rfl ?_)))
 intro b2
 refine zE rfl rfl (zA (zC (zD (zD (zB (zL rfl rfl F.fi95_0 F.ti92 (jE (o := 0) (l := [.int .i64 (z0 : Int), .int .i64 (z1 : Int), .int .i64 (z2 : Int)]) rfl rfl F.agg92 F.ti92 (zL rfl rfl F.fi95_0 F.ti92 (qZ (l := [.int .i64 (x0 : Int), .int .i64 (x1 : Int), .int .i64 (x2 : Int)]) rfl rfl F.agg92 F.ti92 rfl (fun a w ha j u hu => ha.old (hc7 (0 + j) u (by rcases j with _ | _ | _ | j <;> simp at hu ⊢ <;> exact hu)) hb7) (zO5 rfl rfl rfl (zLo om om om om om om _ _) ?_))))))))))
 refine zA (zC (zN rfl (fun hc0 => ?_) (fun hc0 => ?_)))
 ·exact zD (zB (zL rfl rfl F.fi95_1 F.ti93 (zR rfl rfl F.one93 (zL rfl rfl F.fi95_1 F.ti93 (kN (v := .int .u8 (xw : Int)) rfl rfl F.one93 (fun a w ha => ha.old (hc7 3 _ rfl) hb7) (zI (v := .int .u8 ((zw &&& (7 - xw) : Nat) : Int)) rfl rfl rfl (fun w => zEs w (andNot8 zw hzw xw hxw)) (zI rfl rfl rfl jY (zE rfl rfl (zA (zC (zY (jB (jJ rfl (fun a w ha => jO rfl rfl ha) (fun a w ha => ⟨by rw [zRz om om om], ha.grown nsl⟩))))))))))))))
 ·refine zQ (zC (zD (zD (zB (zL rfl rfl F.fi95_0 F.ti92 (qZ (l := [.int .i64 (x0 : Int), .int .i64 (x1 : Int), .int .i64 (x2 : Int)]) rfl rfl F.agg92 F.ti92 rfl (fun a w ha j u hu => ha.old (hc7 (0 + j) u (by rcases j with _ | _ | _ | j <;> simp at hu ⊢ <;> exact hu)) hb7) (zF rfl rfl (zA (zC (zS (xY (G := Nat) (fun k => k <= 3 ∧ ∀ j, j < k -> [x0, x1, x2].getD j 0 <= [z0, z1, z2].getD j 0) (fun k => 3 - k) (fun k => [(1, pt b7), (2, pt b2), (18, .agg [.int .i64 (x0 : Int), .int .i64 (x1 : Int), .int .i64 (x2 : Int)].toArray), (19, .int .i64 (k : Int))]) (fun k => [.blk b2 (.cells (V4 z0 z1 z2 zw).toArray 95 (0, 0))]) 0 ⟨Nat.zero_le _, fun j hj => absurd hj (Nat.not_lt_zero _)⟩ sbn sbl ?_)))))))))))
  intro k hk
  (try dsimp only at hk ⊢)
  refine zD (zB (zI rfl rfl rfl jR ?_))
  refine zA (zC (zD (zN rfl (fun hc1 => ?_) (fun hc1 => ?_))))
  ·refine zQ (zC (zD (zS (zD (zB (zF rfl rfl (zMu (v := .int .i64 (([x0, x1, x2].getD k 0 : Nat) : Int)) rfl rfl rfl Try.underlying92 F.one3 F.ti3 rfl om (zQ0 x0 x1 x2 k om) (zE rfl rfl (zE rfl rfl (zA (zC (zD (zB (zF rfl rfl (zL rfl rfl F.fi95_0 F.ti92 (zB5 (j := k) rfl rfl rfl Try.underlying92 F.ti3 rfl om (kN (v := .int .i64 (([z0, z1, z2].getD k 0 : Nat) : Int)) rfl rfl F.one3 (fun a w ha => qH (ha.mem_blk (InB.mem (b := b2) (o := .cells (V4 z0 z1 z2 zw).toArray 95 (0, 0)))) (by rw [Nat.zero_add, Nat.mul_one]; exact zF5 z0 z1 z2 _ k om)) (zF rfl rfl (zI rfl rfl rfl jR ?_)))))))))))))))))))
   refine zA (zC (zN rfl (fun hc2 => ?_) (fun hc2 => ?_)))
   ·exact zD (zB (zE rfl rfl (zA (zC (zY (jW (jB (jB (jW (jB (jJ rfl (fun a w ha => jO rfl rfl ha) (fun a w ha => ⟨by rw [zYp (k := k) om om], ha.grown nsl⟩))))))))))))
   ·refine zQ (zJ (zC (zB (zI rfl rfl rfl (fun w => jK w (zT _ om om)) (zF rfl rfl (zA (qY (k + 1) ⟨by omega, fun j hj => ?_⟩ tdo sbn sbl)))))))
    rcases Nat.lt_or_ge j k with h | h
    ·exact hk.2 j h
    ·obtain rfl : j = k := by omega
     omega
  ·exact jU (zO (zO (jF (zC (zD (zB (zL rfl rfl F.fi95_1 F.ti93 (zR rfl rfl F.one93 (zL rfl rfl F.fi95_1 F.ti93 (kN (v := .int .u8 (xw : Int)) rfl rfl F.one93 (fun a w ha => ha.old (hc7 3 _ rfl) hb7) (zI (v := .int .u8 ((zw &&& (7 - xw) : Nat) : Int)) rfl rfl rfl (fun w => zEs w (andNot8 zw hzw xw hxw)) (zI rfl rfl rfl jY (zE rfl rfl (zA (zC (zY (jJ rfl (fun a w ha => jO rfl rfl ha) (fun a w ha => ⟨by rw [zRz (by have := hk.2 0 om; simpa using this) (by have := hk.2 1 om; simpa using this) (by have := hk.2 2 om; simpa using this)], ha.grown nsl⟩))))))))))))))))))

variable {b7 dc fc kiln : Nat} {dA fA : Option Addr} {days : List Nat} {fs : List Flt}
theorem zSy (h : ChV fs kiln days) : (agnS fA dA fc dc kiln fs days b7).Ok := ⟨h.f3, h.ff, Nat.le_succ_of_le h.d4, h.dd, jD Try.func66 rfl (by kernel_rfl), jD Try.func61 rfl (by kernel_rfl)⟩
theorem zKk {x0 x1 x2 xw : Nat} {w : World} (hx : start fs = ⟨[x0, x1, x2], xw⟩) (hx0 : x0 <= 4) (hx1 : x1 <= 4) (hx2 : x2 <= 4) (hxw : xw < 8) (hF : RdL Flt.cells 4 w fA fs) (hD : RdL ncell 1 w dA days) :
  Stays w.heap.size w [.blk b7 (.cells (V4 x0 x1 x2 xw).toArray 95 (0, 0))] (agnS fA dA fc dc kiln fs days b7).Env := fun _ _ _ _ _ w' hr ha => ⟨hF.later ha.below, hD.later ha.below, fun A c d acts _ _ _ => zRb _ A _ c w', fun m hm => by
  obtain ⟨a, b, c, x, rfl, h1, h2, h3, h4⟩ := hm.form
  have hb := ha.mem_blk (hr (.blk b7 (.cells (V4 x0 x1 x2 xw).toArray 95 (0, 0))) (by simp))
  have h9 := zVb h1 h2 h3 h4 hx0 hx1 hx2 hxw w' (b7 := b7) (Array.getElem?_eq_some_iff.1 hb).1 (fun j v hv => qH hb (by simpa using hv))
  rw [<- hx] at h9
  exact h9⟩

set_option maxRecDepth 4000 in
theorem zWv (hc : ChV fs kiln days) (w : World) (hF : RdL Flt.cells 4 w fA fs) (hD : RdL ncell 1 w dA days) : Calls Try.prog 33 #[.agg (CA fA fs.length fc kiln dA days.length dc).toArray] w fun e w' => ∃ oA oc mr, (((bstG fs kiln days).is = true ∧ mr.reverse.map (·.2.2) = planG fs kiln days ∧ e = .returned (.tuple #[.slice oA mr.length oc, .int .i64 (((bstG fs kiln days).f : Nat) : Int), .int .i64 0])) ∨ ((bstG fs kiln days).is = false ∧ mr = [] ∧ e = .returned (.tuple #[.slice none 0 0, .int .i64 0, .int .i64 11]))) ∧ Grew w w' (.row 22 1 oA mr.length oc (mr.reverse.map mcell) :: mr.map mrow) := by
 have hm0 : MOk (start fs) := yG hc.f3 hc.ff _ (Nat.le_refl _)
 obtain ⟨x0, x1, x2, xw, hx, hx0, hx1, hx2, hxw⟩ := hm0.form
 refine enter (N := 38) [(0, .agg (CA fA fs.length fc kiln dA days.length dc).toArray)] Try.func33 rfl Try.ntmps33 rfl rfl (zD (zB (kA rfl rfl ?_)))
 intro b1
 refine zE rfl rfl (zE rfl rfl (zE rfl rfl (zA (zC (zD (zD (zB (jE rfl rfl F.agg27 F.ti27 ?_))))))))
 refine jM (v := .int .i64 0) (vs := [_]) rfl rfl F.ent43 (fun a w ha => by
  have h := zCj (fA := fA) (dA := dA) (fc := fc) (dc := dc) (fs := fs.map Flt.toZ) (kiln := (kiln : Int)) (days := toZs days) (by have := hc.f3; simp; omega) (by have := hc.d4; simp [toZs]; omega) w (RdL.mapped Flt.toZ (hF.later ha.below) (fun _ => rfl)) (RdL.mapped (fun (n : Nat) => (n : Int)) (hD.later ha.below) (fun _ => rfl))
  rw [chk0 hc] at h
  simpa [toZs] using h) ?_
 refine zE rfl rfl (zA (zC (zD (zB (zF rfl rfl (zI rfl rfl rfl qO ?_))))))
 refine zA (zC (zN rfl (fun hc0 => ?_) (fun hc0 => ?_)))
 ·exact absurd rfl hc0
  done
 ·refine zQ (zC (zD (zB (jE rfl rfl F.agg27 F.ti27 (kG (vs := [(0, _)]) (l' := [_, _, _]) rfl rfl F.ti77 F.pl77 (.cons rfl rfl (.nil _)) rfl (qK (X := Nat × Nat) (vs := [_]) (p := fun _ => True) (val := fun g => .pointer (some ⟨g.1, 0, none⟩)) (rs := fun g => [.blk g.1 (.cells [.slice fA fs.length fc, .int .i64 (kiln : Int), .slice dA days.length dc, .func (.func 66) [].toArray [].toArray, .func (.func 67) [].toArray [].toArray, .map (some g.2)].toArray 101 (0, 0)), .blk g.2 (KS.obj [])]) rfl rfl F.ent48 (fun a w ha => (zGv fA dA fc days.length dc kiln fs w).mono (fun e w' h => by obtain ⟨b, km, h1, h2⟩ := h; exact ⟨(b, km), trivial, h1, h2⟩)) ?_))))))
  rintro ⟨sb, km⟩ -
  dsimp only [List.cons_append, List.nil_append]
  refine zE rfl rfl (zA (zC (zD (zB (zF rfl rfl (qT rfl rfl (yT rfl rfl F.fi101_0 F.ti77 (jE (o := 0) (l := (CA fA fs.length fc kiln dA days.length dc)) rfl rfl F.agg77 F.ti77 (jM (v := .agg (V4 x0 x1 x2 xw).toArray) (vs := [_]) rfl rfl F.ent60 (fun a w ha => (zDz fA dA fc days.length dc kiln fs hc.f3 hc.ff w (hF.later ha.below)).mono (fun e w' h => ⟨h.1.trans (by rw [hx]; rfl), h.2⟩)) (zX rfl F.ti95 ?_))))))))))
  intro b7
  refine zH rfl rfl F.ti95 rfl (zA (zC (zD (zB (zF rfl rfl (vW (fs := []) (cs := [_]) rfl rfl rfl (qT rfl rfl (yT rfl rfl F.fi101_2 F.ti98 (zH rfl rfl F.ti98 rfl (zA (zC (zD ?_))))))))))))
  rcases his : (bstG fs kiln days).is with _ | _
  ·refine zB (zF rfl rfl (xB (X := Option Addr × Nat × List Meta × List (Spot × Value)) (first := []) (cap := []) (vs := [_]) (p := fun g => g.2.2.1 = []) (val := fun g => .tuple #[.slice none 0 0, .int .i64 0, .bool false]) (rs := fun g => .row 22 1 g.1 g.2.2.1.length g.2.1 (g.2.2.1.reverse.map mcell) :: .blk km (KS.obj g.2.2.2) :: .blk sb (.cells [.slice fA fs.length fc, .int .i64 (kiln : Int), .slice dA days.length dc, .func (.func 66) [].toArray [].toArray, .func (.func 61) [].toArray [pt b7].toArray, .map (some km)].toArray 101 (0, 0)) :: (g.2.2.1.map mrow ++ [.blk b7 (.cells (V4 x0 x1 x2 xw).toArray 95 (0, 0)), .blk b1 (.cells (CA fA fs.length fc kiln dA days.length dc).toArray 27 (0, 0))])) rfl rfl rfl F.ent49 (fun a w ha => ?_) ?_))
   ·refine (zEf (s := (agnS fA dA fc dc kiln fs days b7)) (zSy hc) (T := [.blk b7 (.cells (V4 x0 x1 x2 xw).toArray 95 (0, 0)), .blk b1 (.cells (CA fA fs.length fc kiln dA days.length dc).toArray 27 (0, 0))]) (km := km) (sb := sb) (KnOk.nil _) ((zKk hx hx0 hx1 hx2 hxw hF hD).more (fun r hr => by simp at hr; simp [hr])) (ha.pck pkk)).mono ?_
    rintro e w' ⟨kn', oA, oc, mr, hcase, hk, hA⟩
    rcases hcase with ⟨h1, h2, h3⟩ | ⟨h1, h2, h3⟩
    ·exact absurd (his.symm.trans h1) (by simp)
    ·exact ⟨(oA, oc, mr, kn'), h2, h3, hA⟩
   rintro ⟨oA, oc, mr, kn'⟩ hp
   dsimp only at hp ⊢
   exact zF rfl rfl (zW rfl rfl rfl (zW rfl rfl rfl (zW rfl rfl rfl (zE rfl rfl (zE rfl rfl (zE rfl rfl (zA (zC (zD (zD (zB (zF rfl rfl (qF rfl rfl (zA (zC (kX rfl (zD (zB (zE rfl rfl (zE rfl rfl (zE rfl rfl (zA (zC (zY (jB (jJ rfl (fun a w ha => xL rfl rfl rfl rfl ha) (fun a w ha => ⟨oA, oc, mr, .inr ⟨rfl, hp, rfl⟩, ha.grown (.cons_cons _ (.cons _ (.cons _ (List.sublist_append_left ..))))⟩)))))))))))))))))))))))))))
  ·refine zB (zF rfl rfl (xB (X := Option Addr × Nat × List Meta × List (Spot × Value)) (first := []) (cap := []) (vs := [_]) (p := fun g => g.2.2.1.reverse.map (·.2.2) = planG fs kiln days) (val := fun g => .tuple #[.slice g.1 g.2.2.1.length g.2.1, .int .i64 (((bstG fs kiln days).f : Nat) : Int), .bool true]) (rs := fun g => .row 22 1 g.1 g.2.2.1.length g.2.1 (g.2.2.1.reverse.map mcell) :: .blk km (KS.obj g.2.2.2) :: .blk sb (.cells [.slice fA fs.length fc, .int .i64 (kiln : Int), .slice dA days.length dc, .func (.func 66) [].toArray [].toArray, .func (.func 61) [].toArray [pt b7].toArray, .map (some km)].toArray 101 (0, 0)) :: (g.2.2.1.map mrow ++ [.blk b7 (.cells (V4 x0 x1 x2 xw).toArray 95 (0, 0)), .blk b1 (.cells (CA fA fs.length fc kiln dA days.length dc).toArray 27 (0, 0))])) rfl rfl rfl F.ent49 (fun a w ha => ?_) ?_))
   ·refine (zEf (s := (agnS fA dA fc dc kiln fs days b7)) (zSy hc) (T := [.blk b7 (.cells (V4 x0 x1 x2 xw).toArray 95 (0, 0)), .blk b1 (.cells (CA fA fs.length fc kiln dA days.length dc).toArray 27 (0, 0))]) (km := km) (sb := sb) (KnOk.nil _) ((zKk hx hx0 hx1 hx2 hxw hF hD).more (fun r hr => by simp at hr; simp [hr])) (ha.pck pkk)).mono ?_
    rintro e w' ⟨kn', oA, oc, mr, hcase, hk, hA⟩
    rcases hcase with ⟨h1, h2, h3⟩ | ⟨h1, h2, h3⟩
    ·exact ⟨(oA, oc, mr, kn'), h2.trans (zLv _ _), h3, hA⟩
    ·exact absurd (his.symm.trans h1) (by simp)
   rintro ⟨oA, oc, mr, kn'⟩ hp
   dsimp only at hp ⊢
   exact zF rfl rfl (zW rfl rfl rfl (zW rfl rfl rfl (zW rfl rfl rfl (zE rfl rfl (zE rfl rfl (zE rfl rfl (zA (zC (zD (zD (zB (zF rfl rfl (qF rfl rfl (zA (zC (kI rfl (zQ (zC (zD (zB (zF rfl rfl (zF rfl rfl (zE rfl rfl (zE rfl rfl (zE rfl rfl (zA (zC (zY (jJ rfl (fun a w ha => xL rfl rfl rfl rfl ha) (fun a w ha => ⟨oA, oc, mr, .inl ⟨rfl, hp, rfl⟩, ha.grown (.cons_cons _ (.cons _ (.cons _ (List.sublist_append_left ..))))⟩))))))))))))))))))))))))))))))

end Go.Proofs.Yteppiphdbondeaa.N
namespace Go.Proofs.Yteppiphdbondeaa.N
open Go Go.RowKit Go.Proofs
set_option linter.unusedSectionVars false
variable {B kiln n : Nat} {T : List Res} {days : List Nat} {fA : Option Addr} {fs : List Flt} {w0 : World}
def buyN (fs : List Flt) (kiln : Nat) (days : List Nat) (os : List Flt) : Nat -> Option (Nat × Nat)
 | 0 => none
 | k + 1 => if (bstA (fs ++ [os.getD k default]) kiln days).is = true ∧ (∀ p, buyN fs kiln days os k = some p -> (bstA (fs ++ [os.getD k default]) kiln days).f < p.2) then some (k, (bstA (fs ++ [os.getD k default]) kiln days).f) else buyN fs kiln days os k
def buyI : Option (Nat × Nat) -> Int
 | none => -1
 | some p => p.1
def buyF : Option (Nat × Nat) -> Nat
 | none => 0
 | some p => p.2
theorem zPf {os : List Flt} : ∀ k p, buyN fs kiln days os k = some p -> p.1 < k
 | 0, p, h => by cases h
 | k + 1, p, h => by
  unfold buyN at h
  split at h
  ·cases h; exact Nat.lt_succ_self _
  ·have := zPf k p h; omega
section
variable [I : Sys]
theorem zIy {dA : Option Addr} {fc dc : Nat} (hF : Stays B w0 T fun w => RdL Flt.cells 4 w fA fs) (hD : Stays B w0 T fun w => RdL ncell 1 w dA days) : Stays B w0 T (anyS fA dA fc dc kiln fs days).Env :=
 fun N ds fr hp a w hr ha => zOu (hF N ds fr hp a w hr ha) (hD N ds fr hp a w hr ha)
theorem zIv {l : List Nat} (hF : RdL ncell 1 w0 fA l) : Stays w0.heap.size w0 T fun w => RdL ncell 1 w fA l := fun _ _ _ _ _ _ _ ha => hF.later ha.below
theorem zKr {c : Nat} (hm : Res.row 49 4 fA n c (fs.flatMap Flt.cells) ∈ T) (hn : fs.length = n) : Stays B w0 T fun w => RdL Flt.cells 4 w fA fs := fun _ _ _ _ _ _ hr ha => qV ha (cells := Flt.cells) (e := 49) (c := c) (n := n) (l := fs) (fun _ => rfl) (hr _ hm) hn.symm
end
theorem ChV.more {f : Flt} (h : ChV fs kiln days) (h2 : fs.length <= 2) (hf : FltOk f) : ChV (fs ++ [f]) kiln days :=
 ⟨by simp, by simp; omega, fun g hg => by
  rcases List.mem_append.1 hg with hg | hg
  ·exact h.ff g hg
  ·simp at hg; subst hg; exact hf, h.k3, h.d1, h.d4, h.dd⟩
theorem zYi {p g : Nat} {wd : Bool} (h : FltOk ⟨p, g, n, wd⟩) : chkF ⟨(p : Int), (g : Int), (n : Int), wd⟩ = 0 := by
 obtain ⟨a1, a2, a3, a4⟩ := h
 dsimp only at a1 a2 a3 a4
 unfold chkF btw
 rw [if_pos]
 simp
 omega
theorem zKe {x y z t1 t2 t3 : Res} {M : List Res} : (x :: y :: z :: (M ++ [t1, t2, t3])).Perm (t1 :: t2 :: t3 :: (x :: y :: z :: M)) := List.perm_append_comm (l₁ := x :: y :: z :: M) (l₂ := [t1, t2, t3])
theorem zI7 (fs : List Flt) : (fs.flatMap Flt.cells).length = fs.length * 4 := by
 induction fs with
 | nil => rfl
 | cons f fs ih => rw [List.flatMap_cons, List.length_append, ih]; simp [Flt.cells]; omega
theorem zVp [I : Sys] {w : World} {p : Addr} (h : RdL Flt.cells 4 w (some p) fs) : ∀ j u, (fs.flatMap Flt.cells)[j]? = some u -> w.cell? (p.add j) = some u := fun j u hu => by
 have hj : j < fs.length * 4 := by rw [<- zI7]; exact (List.getElem?_eq_some_iff.1 hu).1
 obtain ⟨b, o, h1, _, h3⟩ := h om
 cases h1
 rw [xE]
 have key : ∀ (fs : List Flt) (j : Nat) (u : Value), (fs.flatMap Flt.cells)[j]? = some u -> ∃ f, fs[j / 4]? = some f ∧ (Flt.cells f)[j % 4]? = some u := by
  intro fs
  induction fs with
  | nil => intro j u h; simp at h
  | cons f fs ih =>
   intro j u h
   rw [List.flatMap_cons, List.getElem?_append] at h
   split at h
   ·rename_i hl
    have hl4 : j < 4 := hl
    exact ⟨f, by rw [Nat.div_eq_of_lt hl4]; rfl, by rw [Nat.mod_eq_of_lt hl4]; exact h⟩
   ·rename_i hl
    have hl4 : 4 <= j := by simpa [Flt.cells] using hl
    obtain ⟨g, h1, h2⟩ := ih (j - 4) u (by simpa [Flt.cells] using h)
    refine ⟨g, ?_, by rw [show j % 4 = (j - 4) % 4 from by omega]; exact h2⟩
    rw [show j / 4 = (j - 4) / 4 + 1 from by omega]
    simpa using h1
 obtain ⟨f, hf, hc⟩ := key fs j u hu
 have := h3 (j / 4) f hf (j % 4) u hc
 rw [show o + j = o + j / 4 * 4 + j % 4 from by omega]
 exact this
end Go.Proofs.Yteppiphdbondeaa.N
namespace Go.Proofs.Yteppiphdbondeaa.N
open Go Go.RowKit Go.Proofs
set_option linter.unusedSectionVars false
variable [I : Sys]

set_option maxRecDepth 4000 in
theorem zZx {fA dA oA : Option Addr} {fc dc oc kiln : Nat} {fs os : List Flt} {days : List Nat} (hc : ChV fs kiln days) (hn2 : fs.length <= 2) (ho : ∀ f ∈ os, FltOk f) (ho3 : os.length <= 3) (hcap : fs.length <= fc) (w : World) (hF : RdL Flt.cells 4 w fA fs) (hD : RdL ncell 1 w dA days) (hO : RdL Flt.cells 4 w oA os) : Calls Try.prog 28 #[.agg (CA fA fs.length fc kiln dA days.length dc).toArray, .slice oA os.length oc] w fun e w' => e = .returned (match buyN fs kiln days os os.length with | none => .tuple #[.int .i64 0, .int .i64 0, .int .i64 11] | some q => .tuple #[.int .i64 (q.1 : Int), .int .i64 (q.2 : Int), .int .i64 0]) ∧ Grew w w' [] := by
 refine enter (N := 89) [(0, .agg (CA fA fs.length fc kiln dA days.length dc).toArray), (1, .slice oA os.length oc)] Try.func28 rfl Try.ntmps28 rfl rfl (zD (zB (kA rfl rfl ?_)))
 intro b2
 refine zE rfl rfl (zE rfl rfl (zE rfl rfl (zA (zC (zD (zD (zB (jE rfl rfl F.agg27 F.ti27 ?_))))))))
 refine jM (v := .int .i64 0) (vs := [_]) rfl rfl F.ent43 (fun a w ha => by
  have h := zCj (fA := fA) (dA := dA) (fc := fc) (dc := dc) (fs := fs.map Flt.toZ) (kiln := (kiln : Int)) (days := toZs days) (by have := hc.f3; simp; omega) (by have := hc.d4; simp [toZs]; omega) w (RdL.mapped Flt.toZ (hF.later ha.below) (fun _ => rfl)) (RdL.mapped (fun (n : Nat) => (n : Int)) (hD.later ha.below) (fun _ => rfl))
  rw [chk0 hc] at h
  simpa [toZs] using h) ?_
 refine zE rfl rfl (zA (zC (zD (zB (zF rfl rfl (zI rfl rfl rfl qO ?_))))))
 refine zA (zC (zN rfl (fun hc0 => ?_) (fun hc0 => ?_)))
 ·exact absurd rfl hc0
  done
 ·refine zQ (zC (zD (zS (zD (zB (zL rfl rfl F.fi27_0 F.ti25 (zR rfl rfl F.one25 (jX rfl rfl Try.underlying25 (zI rfl rfl rfl jY ?_)))))))))
  refine zE rfl rfl (zA (zC (zN rfl (fun hc1 => ?_) (fun hc1 => ?_))))
  ·exact absurd hc1 om
   done
  ·refine zD (zB (zF rfl rfl (jX rfl rfl Try.underlying25 (zI rfl rfl rfl zCi ?_))))
   refine zE rfl rfl (zA (zC (zN rfl (fun hc2 => ?_) (fun hc2 => ?_))))
   ·exact absurd hc2 om
    done
   ·refine zQ (zJ (zC (zD (zD (zB (zF rfl rfl (jX rfl rfl Try.underlying25 (zF rfl rfl (zA (zC (zS (xY (G := Nat) (fun k => k <= os.length) (fun k => os.length - k) (fun k => [(1, .slice oA os.length oc), (2, pt b2), (33, .slice oA os.length oc), (34, .int .i64 (os.length : Int)), (35, .int .i64 (k : Int))]) (fun k => [.blk b2 (.cells (CA fA fs.length fc kiln dA days.length dc).toArray 27 (0, 0))]) 0 (Nat.zero_le _) sbn sbl ?_))))))))))))
    intro k hk
    (try dsimp only at hk ⊢)
    refine zD (zB (zI rfl rfl rfl jR ?_))
    refine zA (zC (zD (zN rfl (fun hc3 => ?_) (fun hc3 => ?_))))
    ·have hk' : k < os.length := by omega
     obtain ⟨bf, bo, hoA, hbf, hcf⟩ := hO om
     obtain ⟨f, hx⟩ : ∃ x, os[k]? = some x := ⟨_, List.getElem?_eq_getElem hk'⟩
     have hfok := ho f (List.mem_of_getElem? hx)
     obtain ⟨pw, gn, nw, wd⟩ := f
     refine zQ (zC (zD (zS (zD (zB (qE (j := k) rfl (show _ = some (Value.slice (some ⟨bf, bo, none⟩) os.length oc) from by rw [<- hoA]; rfl) rfl Try.underlying25 F.ti49 rfl hk' (qZ (l := [.int .i64 (pw : Int), .int .i64 (gn : Int), .int .i64 (nw : Int), .bool wd]) rfl rfl F.agg49 F.ti49 rfl (fun a w ha j u hu => ha.old (hcf k _ hx j u hu) hbf) (zX rfl F.ti49 ?_))))))))
     intro b9
     refine zH rfl rfl F.ti49 rfl (zA (zC (zD (zB (jE rfl rfl F.agg49 F.ti49 (jM (v := .int .i64 0) (vs := [_]) rfl rfl F.ent59 (fun a w ha => (zFf (pw : Int) (gn : Int) (nw : Int) wd w).mono (fun e w' h => ⟨h.1.trans (by rw [show chkF ⟨(pw : Int), (gn : Int), (nw : Int), wd⟩ = 0 from zYi hfok]; rfl), h.2⟩)) (zE rfl rfl (zA (zC (zD (zB (zF rfl rfl (zI rfl rfl rfl qO ?_)))))))))))))
     refine zA (zC (zN rfl (fun hc4 => ?_) (fun hc4 => ?_)))
     ·exact absurd rfl hc4
      done
     ·refine zQ (zJ (zC (zB (zI rfl rfl rfl (fun w => jK w (zT _ om om)) (zF rfl rfl (zA (qY (k + 1) om tdo sbn sbl)))))))
    ·refine jU (zO (zO (jF (zC (zD (zB (zE rfl rfl (zE rfl rfl (zA (zC (zD (zB (zL rfl rfl F.fi27_0 F.ti25 (zR rfl rfl F.one25 (zE rfl rfl (zA (zC (zD (zD (zB (zF rfl rfl (jX rfl rfl Try.underlying25 (zF rfl rfl (zA (zC (zS (qW (G := Nat × Option Addr × Nat × Nat) (fun g => g.1 <= os.length) (fun g => os.length - g.1) (fun g => [(2, pt b2), (11, .int .i64 (buyI (buyN fs kiln days os g.1))), (12, .int .i64 ((buyF (buyN fs kiln days os g.1) : Nat) : Int)), (13, .slice fA fs.length fc), (47, .slice oA os.length oc), (48, .int .i64 (os.length : Int)), (49, .int .i64 (g.1 : Int))]) (fun g => [.blk b2 (.cells [.slice g.2.1 g.2.2.1 g.2.2.2, .int .i64 (kiln : Int), .slice dA days.length dc].toArray 27 (0, 0))]) (0, fA, fs.length, fc) (Nat.zero_le _) sbn pkk ?_)))))))))))))))))))))))))))
     rintro ⟨k, X, xn, xc⟩ hkk
     dsimp only at hkk ⊢
     refine zD (zB (zI rfl rfl rfl jR ?_))
     refine zA (zC (zD (zN rfl (fun hc5 => ?_) (fun hc5 => ?_))))
     ·have hk' : k < os.length := by omega
      obtain ⟨bf, bo, hoA, hbf, hcf⟩ := hO om
      obtain ⟨f, hx⟩ : ∃ x, os[k]? = some x := ⟨_, List.getElem?_eq_getElem hk'⟩
      have hfok := ho f (List.mem_of_getElem? hx)
      obtain ⟨pw, gn, nw, wd⟩ := f
      have hgd : os.getD k default = (⟨pw, gn, nw, wd⟩ : Flt) := by rw [List.getD_eq_getElem?_getD, hx]; rfl
      have hsucc : buyN fs kiln days os (k + 1) = if (bstA (fs ++ [(⟨pw, gn, nw, wd⟩ : Flt)]) kiln days).is = true ∧ (∀ p, buyN fs kiln days os k = some p -> (bstA (fs ++ [(⟨pw, gn, nw, wd⟩ : Flt)]) kiln days).f < p.2) then some (k, (bstA (fs ++ [(⟨pw, gn, nw, wd⟩ : Flt)]) kiln days).f) else buyN fs kiln days os k := by rw [<- hgd]; rfl
      have hbf2 := (anyS none none 0 0 kiln (fs ++ [(⟨pw, gn, nw, wd⟩ : Flt)]) days).bst_le (zFp (hc.more hn2 hfok)) days.length (start (fs ++ [(⟨pw, gn, nw, wd⟩ : Flt)]))
      refine zQ (zC (zD (zS (zD (zB (zF rfl rfl (qE (j := k) rfl (show _ = some (Value.slice (some ⟨bf, bo, none⟩) os.length oc) from by rw [<- hoA]; rfl) rfl Try.underlying25 F.ti49 rfl hk' (qZ (l := [.int .i64 (pw : Int), .int .i64 (gn : Int), .int .i64 (nw : Int), .bool wd]) rfl rfl F.agg49 F.ti49 rfl (fun a w ha j u hu => ha.old (hcf k _ hx j u hu) hbf) (zX rfl F.ti49 ?_)))))))))
      intro b15
      refine zE rfl rfl (zH rfl rfl F.ti49 rfl (zA (zC (zD (kD [.b b2] F.follows 11 rfl [false, false, false, false, false, false, false, false, false, false, false] rfl (zG 0 rfl rfl rfl (zP rfl) (zG 1 rfl rfl rfl (zP rfl) (zG 2 rfl rfl rfl (zA3 rfl Try.underlying25) (zG 3 rfl rfl rfl (zP rfl) (zG 4 rfl rfl rfl (zA3 rfl Try.underlying25) (zG 5 rfl rfl rfl (zFw (k := fs.length) rfl rfl rfl Try.underlying25 F.ti49 hcap) (zG 6 rfl rfl rfl (qL rfl F.agg49 F.ti49) (an1 7 rfl (yV (vs := [(0, .agg ([.int .i64 (pw : Int), .int .i64 (gn : Int), .int .i64 (nw : Int), .bool wd] : List Value).toArray)]) [.int .i64 (pw : Int), .int .i64 (gn : Int), .int .i64 (nw : Int), .bool wd] rfl rfl Try.underlying25 F.ti49 rfl rfl rfl (Lit.agg (l1 := [.int .i64 (pw : Int), .int .i64 (gn : Int), .int .i64 (nw : Int), .bool wd]) (l := []) rfl rfl) ?_))))))))))))))
      intro b61
      refine zA (anb (an1 8 rfl ?_))
      refine zC7 (olds := fs.flatMap Flt.cells) (news := [.int .i64 (pw : Int), .int .i64 (gn : Int), .int .i64 (nw : Int), .bool wd]) rfl rfl rfl Try.underlying25 F.ti49 rfl rfl rfl Nat.one_pos (fun h => by obtain ⟨b', o', e, _⟩ := hF hc.f1; rw [e] at h; cases h) (zI7 fs) (fun a w ha p' hp' j u hu => ?_) (by unfold maxLen; omega) om ?_
      ·subst hp'
       exact zVp (hF.later ha.below) j u hu
      intro A1 c1
      refine zA (anb (zG 9 rfl rfl rfl (jA rfl F.fi27_0 F.ti25) (an1 10 rfl (zH rfl rfl F.ti25 rfl (zA (anb (adn (zC (zD ?_)))))))))
      rcases his : (bstA (fs ++ [(⟨pw, gn, nw, wd⟩ : Flt)]) kiln days).is with _ | _
      ·refine zB (jE rfl rfl F.agg27 F.ti27 (kG (vs := [(0, _)]) (l' := [_, _, _]) rfl rfl F.ti77 F.pl77 (.cons rfl rfl (.nil _)) rfl ?_))
       refine qK (X := Nat × Nat) (vs := [_]) (p := fun _ => True) (val := fun g => .pointer (some ⟨g.1, 0, none⟩)) (rs := fun g => [.blk g.1 (.cells [.slice A1 (fs.length + 1) c1, .int .i64 (kiln : Int), .slice dA days.length dc, .func (.func 66) [].toArray [].toArray, .func (.func 67) [].toArray [].toArray, .map (some g.2)].toArray 101 (0, 0)), .blk g.2 (KS.obj [])]) rfl rfl F.ent48 (fun a w ha => by
        have h9 := zGv A1 dA c1 days.length dc kiln (fs ++ [(⟨pw, gn, nw, wd⟩ : Flt)]) w
        rw [show (fs ++ [(⟨pw, gn, nw, wd⟩ : Flt)]).length = fs.length + 1 from by simp] at h9
        exact h9.mono (fun e w' h => by obtain ⟨b, km, h1, h2⟩ := h; exact ⟨(b, km), trivial, h1, h2⟩)) ?_
       rintro ⟨sb, km⟩ -
       dsimp only [List.cons_append, List.nil_append]
       have hfl : (fs ++ [(⟨pw, gn, nw, wd⟩ : Flt)]).length = fs.length + 1 := by simp
       refine xB (X := Option Addr × Nat × List Meta × List (Spot × Value)) (first := []) (cap := []) (vs := [_]) (p := fun _ => True) (val := fun g => .tuple #[.slice none 0 0, .int .i64 0, .bool false]) (rs := fun g => .row 49 4 A1 (fs.length + 1) c1 (fs.flatMap Flt.cells ++ [.int .i64 (pw : Int), .int .i64 (gn : Int), .int .i64 (nw : Int), .bool wd]) :: .blk b15 (.cells [.int .i64 (pw : Int), .int .i64 (gn : Int), .int .i64 (nw : Int), .bool wd].toArray 49 (0, 0)) :: .blk b2 (.cells [.slice A1 (fs.length + 1) c1, .int .i64 (kiln : Int), .slice dA days.length dc].toArray 27 (0, 0)) :: (.row 22 1 g.1 g.2.2.1.length g.2.1 (g.2.2.1.reverse.map mcell) :: .blk km (KS.obj g.2.2.2) :: .blk sb (.cells [.slice A1 (fs.length + 1) c1, .int .i64 (kiln : Int), .slice dA days.length dc, .func (.func 66) [].toArray [].toArray, .func (.func 67) [].toArray [].toArray, .map (some km)].toArray 101 (0, 0)) :: g.2.2.1.map mrow)) rfl rfl rfl F.ent49 (fun a w ha => ?_) ?_
       ·have h9 := zEf (s := (anyS A1 dA c1 dc kiln (fs ++ [(⟨pw, gn, nw, wd⟩ : Flt)]) days)) (zFp (hc.more hn2 hfok)) (T := [.row 49 4 A1 (fs.length + 1) c1 (fs.flatMap Flt.cells ++ [.int .i64 (pw : Int), .int .i64 (gn : Int), .int .i64 (nw : Int), .bool wd]), .blk b15 (.cells [.int .i64 (pw : Int), .int .i64 (gn : Int), .int .i64 (nw : Int), .bool wd].toArray 49 (0, 0)), .blk b2 (.cells [.slice A1 (fs.length + 1) c1, .int .i64 (kiln : Int), .slice dA days.length dc].toArray 27 (0, 0))]) (km := km) (sb := sb) (KnOk.nil _) (zIy (zKr (n := fs.length + 1) (c := c1) (by rw [List.flatMap_append]; exact List.mem_cons_self ..) hfl) (zIv hD)) (by unfold Srch.cells anyS; rw [hfl]; exact ha.pck pkk)
        refine h9.mono ?_
        rintro e w' ⟨kn', oA', oc', mr, hcase, hk, hA⟩
        unfold Srch.cells anyS at hA
        rw [hfl] at hA
        have hB := hA.permed zKe
        rcases hcase with ⟨h1, h2, h3⟩ | ⟨h1, h2, h3⟩
        ·exact absurd (his.symm.trans h1) (by simp)
        ·exact ⟨(oA', oc', mr, kn'), trivial, h3, hB⟩
       rintro ⟨oA', oc', mr, kn'⟩ hp
       dsimp only at hp ⊢
       refine zF rfl rfl (zW rfl rfl rfl (zW rfl rfl rfl (zW rfl rfl rfl (zE rfl rfl (zE rfl rfl (zE rfl rfl (zA (zC (zD (zB (zF rfl rfl (zF rfl rfl (jH rfl rfl rfl (jH rfl rfl rfl (jH rfl rfl rfl (kQ rfl rfl rfl (kQ rfl rfl rfl (kQ rfl rfl rfl (jH rfl rfl rfl (jQ rfl rfl rfl (zA (zC (kI rfl (zQ (zJ (zC (zB (zI rfl rfl rfl (fun w => jK w (zT _ om om)) (zF rfl rfl (zA (kP (k + 1, A1, fs.length + 1, c1) tdo tdo (by (try dsimp only); rw [hsucc, if_neg (by rw [his]; simp)]; repeat (first | exact Sub.nil _ | refine Sub.cons rfl ?_)) pkk)))))))))))))))))))))))))))))))
      ·refine zB (jE rfl rfl F.agg27 F.ti27 (kG (vs := [(0, _)]) (l' := [_, _, _]) rfl rfl F.ti77 F.pl77 (.cons rfl rfl (.nil _)) rfl ?_))
       refine qK (X := Nat × Nat) (vs := [_]) (p := fun _ => True) (val := fun g => .pointer (some ⟨g.1, 0, none⟩)) (rs := fun g => [.blk g.1 (.cells [.slice A1 (fs.length + 1) c1, .int .i64 (kiln : Int), .slice dA days.length dc, .func (.func 66) [].toArray [].toArray, .func (.func 67) [].toArray [].toArray, .map (some g.2)].toArray 101 (0, 0)), .blk g.2 (KS.obj [])]) rfl rfl F.ent48 (fun a w ha => by
        have h9 := zGv A1 dA c1 days.length dc kiln (fs ++ [(⟨pw, gn, nw, wd⟩ : Flt)]) w
        rw [show (fs ++ [(⟨pw, gn, nw, wd⟩ : Flt)]).length = fs.length + 1 from by simp] at h9
        exact h9.mono (fun e w' h => by obtain ⟨b, km, h1, h2⟩ := h; exact ⟨(b, km), trivial, h1, h2⟩)) ?_
       rintro ⟨sb, km⟩ -
       dsimp only [List.cons_append, List.nil_append]
       have hfl : (fs ++ [(⟨pw, gn, nw, wd⟩ : Flt)]).length = fs.length + 1 := by simp
       refine xB (X := Option Addr × Nat × List Meta × List (Spot × Value)) (first := []) (cap := []) (vs := [_]) (p := fun _ => True) (val := fun g => .tuple #[.slice g.1 g.2.2.1.length g.2.1, .int .i64 (((bstA (fs ++ [(⟨pw, gn, nw, wd⟩ : Flt)]) kiln days).f : Nat) : Int), .bool true]) (rs := fun g => .row 49 4 A1 (fs.length + 1) c1 (fs.flatMap Flt.cells ++ [.int .i64 (pw : Int), .int .i64 (gn : Int), .int .i64 (nw : Int), .bool wd]) :: .blk b15 (.cells [.int .i64 (pw : Int), .int .i64 (gn : Int), .int .i64 (nw : Int), .bool wd].toArray 49 (0, 0)) :: .blk b2 (.cells [.slice A1 (fs.length + 1) c1, .int .i64 (kiln : Int), .slice dA days.length dc].toArray 27 (0, 0)) :: (.row 22 1 g.1 g.2.2.1.length g.2.1 (g.2.2.1.reverse.map mcell) :: .blk km (KS.obj g.2.2.2) :: .blk sb (.cells [.slice A1 (fs.length + 1) c1, .int .i64 (kiln : Int), .slice dA days.length dc, .func (.func 66) [].toArray [].toArray, .func (.func 67) [].toArray [].toArray, .map (some km)].toArray 101 (0, 0)) :: g.2.2.1.map mrow)) rfl rfl rfl F.ent49 (fun a w ha => ?_) ?_
       ·have h9 := zEf (s := (anyS A1 dA c1 dc kiln (fs ++ [(⟨pw, gn, nw, wd⟩ : Flt)]) days)) (zFp (hc.more hn2 hfok)) (T := [.row 49 4 A1 (fs.length + 1) c1 (fs.flatMap Flt.cells ++ [.int .i64 (pw : Int), .int .i64 (gn : Int), .int .i64 (nw : Int), .bool wd]), .blk b15 (.cells [.int .i64 (pw : Int), .int .i64 (gn : Int), .int .i64 (nw : Int), .bool wd].toArray 49 (0, 0)), .blk b2 (.cells [.slice A1 (fs.length + 1) c1, .int .i64 (kiln : Int), .slice dA days.length dc].toArray 27 (0, 0))]) (km := km) (sb := sb) (KnOk.nil _) (zIy (zKr (n := fs.length + 1) (c := c1) (by rw [List.flatMap_append]; exact List.mem_cons_self ..) hfl) (zIv hD)) (by unfold Srch.cells anyS; rw [hfl]; exact ha.pck pkk)
        refine h9.mono ?_
        rintro e w' ⟨kn', oA', oc', mr, hcase, hk, hA⟩
        unfold Srch.cells anyS at hA
        rw [hfl] at hA
        have hB := hA.permed zKe
        rcases hcase with ⟨h1, h2, h3⟩ | ⟨h1, h2, h3⟩
        ·exact ⟨(oA', oc', mr, kn'), trivial, h3, hB⟩
        ·exact absurd (his.symm.trans h1) (by simp)
       rintro ⟨oA', oc', mr, kn'⟩ hp
       dsimp only at hp ⊢
       refine zF rfl rfl (zW rfl rfl rfl (zW rfl rfl rfl (zW rfl rfl rfl (zE rfl rfl (zE rfl rfl (zE rfl rfl (zA (zC (zD ?_)))))))))
       have hif := hsucc
       have hle2 := zPf (fs := fs) (kiln := kiln) (days := days) (os := os) k
       rcases hbn : buyN fs kiln days os k with _ | ⟨bi, bfr⟩
       ·refine zB (zF rfl rfl (zF rfl rfl (zM rfl rfl (zF rfl rfl (zM rfl rfl (zI rfl rfl rfl jR (zM rfl rfl (zF rfl rfl (jH rfl rfl rfl (jH rfl rfl rfl (jH rfl rfl rfl (zM rfl rfl (jI rfl rfl rfl (jI rfl rfl rfl (zA (zC (kX rfl (zB (zF rfl rfl (zF rfl rfl (zE rfl rfl (zE rfl rfl (zA (zJ (zC (zB (zI rfl rfl rfl (fun w => jK w (zT _ om om)) (zF rfl rfl (zA (kP (k + 1, A1, fs.length + 1, c1) tdo tdo (by (try dsimp only); rw [hsucc, if_pos ⟨his, fun p hp => by rw [hbn] at hp; cases hp⟩]; repeat (first | exact Sub.nil _ | refine Sub.cons rfl ?_)) pkk))))))))))))))))))))))))))))))
       ·refine zB (zF rfl rfl (zF rfl rfl (zM rfl rfl (zF rfl rfl (zM rfl rfl (zI (v := .bool false) rfl rfl rfl (fun w => by rw [jR]; rw [show decide (buyI (some (bi, bfr)) < 0) = false from decide_eq_false (by dsimp only [buyI]; omega)]) (zM rfl rfl (zF rfl rfl (zM rfl rfl (zF rfl rfl (zM rfl rfl (zF rfl rfl (zM rfl rfl (zI rfl rfl rfl jR ?_))))))))))))))
        refine zM rfl rfl (jQ rfl rfl rfl (jI rfl rfl rfl (zA (zC (zN rfl (fun hc6 => ?_) (fun hc6 => ?_))))))
        ·dsimp only [buyF] at hc6
         refine zB (zF rfl rfl (zF rfl rfl (zE rfl rfl (zE rfl rfl (zA (zJ (zC (zB (zI rfl rfl rfl (fun w => jK w (zT _ om om)) (zF rfl rfl (zA (kP (k + 1, A1, fs.length + 1, c1) tdo tdo (by (try dsimp only); rw [hsucc, if_pos ⟨his, fun p hp => by rw [hbn] at hp; cases hp; omega⟩]; repeat (first | exact Sub.nil _ | refine Sub.cons rfl ?_)) pkk))))))))))))
        ·dsimp only [buyF] at hc6
         refine zQ (zJ (zC (zB (zI rfl rfl rfl (fun w => jK w (zT _ om om)) (zF rfl rfl (zA (kP (k + 1, A1, fs.length + 1, c1) tdo tdo (by (try dsimp only); rw [hsucc, if_neg (by rintro ⟨_, h⟩; have := h _ hbn; omega), hbn]; repeat (first | exact Sub.nil _ | refine Sub.cons rfl ?_)) pkk)))))))
     ·obtain rfl : k = os.length := by omega
      refine jU (zO (zO (jF (zC (zD (zD ?_))))))
      rcases hbn : buyN fs kiln days os os.length with _ | ⟨bi, bfr⟩
      ·exact zB (zF rfl rfl (zI rfl rfl rfl jR (zA (zC (kX rfl (zD (zB (zE rfl rfl (zE rfl rfl (zE rfl rfl (zA (zC (zY (jB (jJ rfl (fun a w ha => xL rfl rfl rfl rfl ha) (fun a w ha => ⟨by rfl, ha.grown nsl⟩))))))))))))))))
      ·exact zB (zF rfl rfl (zI (v := .bool false) rfl rfl rfl (fun w => by rw [jR]; rw [show decide (buyI (some (bi, bfr)) < 0) = false from decide_eq_false (by dsimp only [buyI]; omega)]) (zA (zC (kI rfl (zQ (zC (zD (zB (zF rfl rfl (zF rfl rfl (zE rfl rfl (zE rfl rfl (zE rfl rfl (zA (zC (zY (jJ rfl (fun a w ha => xL rfl rfl rfl rfl ha) (fun a w ha => ⟨by rfl, ha.grown nsl⟩)))))))))))))))))))

end Go.Proofs.Yteppiphdbondeaa.N
namespace Go.Proofs.Yteppiphdbondeaa.N
open Go Go.RowKit Go.Proofs
set_option linter.unusedSectionVars false
variable {fs : List Flt} {k kiln : Nat}
def hfs : List Flt := [⟨3, 1, 3, false⟩, ⟨2, 1, 1, false⟩]
def hds : List Nat := [3, 2, 3]
def tfs : List Flt := [⟨2, 1, 1, false⟩, ⟨2, 1, 1, false⟩]
def tds : List Nat := [1, 1]
def jbs : List (List Nat) := [[0, 2], [3, 0], [0, 0]]
def ofs : List Flt := [⟨2, 0, 2, false⟩]
theorem zKv : bstA hfs 1 hds = ⟨1, 1, true⟩ := by kernel_rfl
theorem zWe : planA hfs 1 hds = jbs := by kernel_rfl
theorem zL5 : bstG tfs 1 tds = ⟨2, 0, true⟩ := by kernel_rfl
theorem zUo : planG tfs 1 tds = [[0, 3], [3, 0]] := by kernel_rfl
theorem zYq : buyN hfs 0 hds ofs 1 = some (0, 0) := by kernel_rfl
theorem zWa : verdO (bstF hfs 1 hds 0 1 true) (bstF hfs 1 hds 0 1 false) = (1, 0) := by kernel_rfl
theorem zXe : workE hfs 1 hds (jbs.map fun l => l.map fun (n : Nat) => (n : Int)) = (0, [[3, 1], [0, 2], [3, 0], [0, 0]], 1) := by kernel_rfl
def stpL (fs : List Flt) (kiln : Nat) (l : List Mor) (d : Nat) : List Mor := l.flatMap fun m => (exts [] fs.length).filterMap fun acts => if (dayE fs kiln m acts d).1 = 0 then some (dayE fs kiln m acts d).2 else none
def rchM (fs : List Flt) (kiln : Nat) (days : List Nat) : List Mor := days.foldl (stpL fs kiln) [start fs]
theorem zTn {d : Nat} {l : List Mor} {S : Mor -> Prop} (h : ∀ m, m ∈ l ↔ S m) : ∀ m, m ∈ stpL fs kiln l d ↔ stp fs kiln S d m := fun x => by
 unfold stpL stp
 rw [List.mem_flatMap]
 constructor
 ·rintro ⟨m, hm, h2⟩
  obtain ⟨acts, ha, h3⟩ := List.mem_filterMap.1 h2
  split at h3
  ·rename_i h0
   cases h3
   exact ⟨m, (h m).1 hm, acts, ha, Prod.ext h0 rfl⟩
  ·cases h3
 ·rintro ⟨m, hm, acts, ha, h2⟩
  exact ⟨m, (h m).2 hm, List.mem_filterMap.2 ⟨acts, ha, by rw [h2]; rfl⟩⟩
theorem zMj : ∀ (days : List Nat) (l : List Mor) (S : Mor -> Prop), (∀ m, m ∈ l ↔ S m) -> ∀ m, m ∈ days.foldl (stpL fs kiln) l ↔ days.foldl (stp fs kiln) S m
 | [], _, _, h => h
 | _ :: days, _, _, h => zMj days _ _ (zTn h)
theorem jAe {days : List Nat} {m : Mor} : m ∈ rchM fs kiln days ↔ Rch fs kiln days m := zMj days _ _ (fun m => by simp) m
theorem zZ0 : (rchM hfs 0 [3]).isEmpty = false := by kernel_rfl
theorem zZw : (rchM hfs 0 [3, 2]).isEmpty = false := by kernel_rfl
theorem zZu : (rchM hfs 0 [3, 2, 3]).isEmpty = true := by kernel_rfl
theorem hv (hk : k <= 3) : ChV hfs k hds := ⟨by decide, by decide, by unfold FltOk; decide, hk, by decide, by decide, by decide⟩
theorem tv1 : ChV tfs 1 tds := ⟨by decide, by decide, by unfold FltOk; decide, by decide, by decide, by decide, by decide⟩
theorem zO4 {α : Type} [DecidableEq α] {l m : List α} (h1 : k <= l.length) (h2 : k <= m.length) (h3 : l.take k = m.take k) (h4 : ¬ (k < l.length ∧ k < m.length)) : decide (l = m) = decide ((l.length : Int) = (m.length : Int)) := by
 rw [decide_eq_decide]
 constructor
 ·rintro rfl; rfl
 ·intro e
  have e1 : k = l.length := by omega
  have e2 : k = m.length := by omega
  rw [e1, List.take_length, <- e1, e2, List.take_length] at h3
  exact h3
end Go.Proofs.Yteppiphdbondeaa.N
namespace Go.Proofs.Yteppiphdbondeaa.N
open Go Go.RowKit Go.Proofs
set_option linter.unusedSectionVars false
variable [I : Sys]
variable {A B : Option Addr} {ca cb : Nat}
theorem F.ent46 : Enters Try.prog 46 := jD Try.func46 rfl (by kernel_rfl)
theorem F.pl27 : Places Try.prog 27 [(0, 1), (1, 1), (2, 1)] := .inl ⟨_, Try.underlying27, by kernel_rfl⟩
theorem F.pl49 : Places Try.prog 49 [(0, 1), (1, 1), (2, 1), (3, 1)] := .inl ⟨_, Try.underlying49, by kernel_rfl⟩
theorem zTp {l m : List Int} (hl : l.length < 1000000) (hm : m.length < 1000000) (w : World) (hA : RdL zcell 1 w A l) (hB : RdL zcell 1 w B m) : Calls Try.prog 46 #[.slice A l.length ca, .slice B m.length cb] w fun e w' => e = .returned (.bool (decide (l = m))) ∧ Grew w w' [] := by
 refine enter (N := 32) [(0, .slice A l.length ca), (1, .slice B m.length cb)] Try.func46 rfl Try.ntmps46 rfl rfl (zD (zB (zE rfl rfl (zA (zC (zD (zD (zB (zE rfl rfl (zA (zC (zS (xY (G := Nat) (fun k => k <= l.length ∧ k <= m.length ∧ l.take k = m.take k) (fun k => l.length - k) (fun k => [(0, .slice A l.length ca), (1, .slice B m.length cb), (5, .int .i64 (k : Int))]) (fun k => []) 0 ⟨Nat.zero_le _, Nat.zero_le _, rfl⟩ sbn sbl ?_)))))))))))))
 intro k hk
 (try dsimp only at hk ⊢)
 refine zD (zD (zB (zAd 10 15 (.bool (decide (k < l.length ∧ k < m.length))) ?_ ?_)))
 ·refine zF rfl rfl (zF rfl rfl (jX rfl rfl Try.underlying22 (zI rfl rfl rfl jR ?_)))
  refine zF rfl rfl (wH (t := 10) rfl (fun hg10 => ?_) (fun hg10 => ?_))
  ·exact zM rfl rfl (zF rfl rfl (zM rfl rfl (zF rfl rfl (zM rfl rfl (jX rfl rfl Try.underlying22 (zM rfl rfl (zI rfl rfl rfl jR (jI rfl rfl rfl (zA (xW (.cons (by simp_all [look] <;> omega) sbn) sbl))))))))))
  ·exact jH rfl rfl rfl (jH rfl rfl rfl (jH rfl rfl rfl (jH rfl rfl rfl (jQ rfl rfl rfl (zA (xW (.cons (by simp_all [look] <;> omega) sbn) sbl))))))
 refine zA (zC (zN rfl (fun hc0 => ?_) (fun hc0 => ?_)))
 ·obtain ⟨hk1, hk2, hk3⟩ := hk
  obtain ⟨ba, oa, hAe, hba, hca⟩ := hA om
  obtain ⟨bb, ob, hBe, hbb, hcb⟩ := hB om
  obtain ⟨x, hx⟩ : ∃ x, l[k]? = some x := ⟨_, List.getElem?_eq_getElem hc0.1⟩
  obtain ⟨y, hy⟩ : ∃ x, m[k]? = some x := ⟨_, List.getElem?_eq_getElem hc0.2⟩
  refine zQ (zC (zD (zS (zD (kD [] F.follows 9 rfl [false, false, false, false, false, false, false, false, false] rfl (zG 0 rfl rfl rfl (zP rfl) (zG 1 rfl rfl rfl (zP rfl) (zG 2 rfl rfl rfl (kM (j := k) (show _ = some (Value.slice (some ⟨ba, oa, none⟩) l.length ca) from by rw [<- hAe]; rfl) rfl Try.underlying22 F.ti3 rfl hc0.1) (zG 3 rfl rfl rfl (jP (v := .int .i64 x) rfl F.one3 (fun a w ha => ha.old (hca k x hx 0 _ rfl) hba)) (zG 4 rfl rfl rfl (zP rfl) (zG 5 rfl rfl rfl (zP rfl) (zG 6 rfl rfl rfl (kM (j := k) (show _ = some (Value.slice (some ⟨bb, ob, none⟩) m.length cb) from by rw [<- hBe]; rfl) rfl Try.underlying22 F.ti3 rfl hc0.2) (zG 7 rfl rfl rfl (jP (v := .int .i64 y) rfl F.one3 (fun a w ha => ha.old (hcb k y hy 0 _ rfl) hbb)) (zG 8 rfl rfl rfl (kS rfl rfl qO) ?_))))))))))))))
  refine adn (zC (zN rfl (fun hc1 => ?_) (fun hc1 => ?_)))
  ·exact zD (zB (zE rfl rfl (zA (zC (zY (jW (jB (jB (jW (jB (jJ rfl (fun a w ha => jO rfl rfl ha) (fun a w ha => ⟨by rw [decide_eq_false (fun e => hc1 (by subst e; rw [hx] at hy; cases hy; rfl))], ha.grown nsl⟩))))))))))))
  ·refine zQ (zJ (zC (zB (zF rfl rfl (zI rfl rfl rfl (fun w => jK w (zT _ om om)) (zE rfl rfl (zA (qY (k + 1) ⟨by omega, by omega, by rw [List.take_add_one, List.take_add_one, hx, hy, hk3]; rw [show x = y from by simpa using hc1]⟩ tdo sbn sbl))))))))
 ·obtain ⟨hk1, hk2, hk3⟩ := hk
  exact jU (zO (zO (jF (zC (zD (zB (zF rfl rfl (jX rfl rfl Try.underlying22 (zF rfl rfl (jX rfl rfl Try.underlying22 (zI rfl rfl rfl jY (zE rfl rfl (zA (zC (zY (jJ rfl (fun a w ha => jO rfl rfl ha) (fun a w ha => ⟨by rw [zO4 hk1 hk2 hk3 hc0], ha.grown nsl⟩)))))))))))))))))

theorem zC2 {l m : List MetaZ} (hl : l.length < 1000000) (hm : m.length < 1000000) (hl2 : ∀ x ∈ l, x.2.2.length < 1000000) (hm2 : ∀ x ∈ m, x.2.2.length < 1000000) (w : World) (hA : RdZ w A l) (hB : RdZ w B m) : Calls Try.prog 21 #[.slice A l.length ca, .slice B m.length cb] w fun e w' => e = .returned (.bool (decide (l.map (·.2.2) = m.map (·.2.2)))) ∧ Grew w w' [] := by
 refine enter (N := 33) [(0, .slice A l.length ca), (1, .slice B m.length cb)] Try.func21 rfl Try.ntmps21 rfl rfl (zD (zB (zE rfl rfl (zA (zC (zD (zD (zB (zE rfl rfl (zA (zC (zS (xY (G := Nat) (fun k => k <= l.length ∧ k <= m.length ∧ (l.map (·.2.2)).take k = (m.map (·.2.2)).take k) (fun k => l.length - k) (fun k => [(0, .slice A l.length ca), (1, .slice B m.length cb), (5, .int .i64 (k : Int))]) (fun k => []) 0 ⟨Nat.zero_le _, Nat.zero_le _, rfl⟩ sbn sbl ?_)))))))))))))
 intro k hk
 (try dsimp only at hk ⊢)
 refine zD (zD (zB (zAd 10 15 (.bool (decide (k < l.length ∧ k < m.length))) ?_ ?_)))
 ·refine zF rfl rfl (zF rfl rfl (jX rfl rfl Try.underlying29 (zI rfl rfl rfl jR ?_)))
  refine zF rfl rfl (wH (t := 10) rfl (fun hg10 => ?_) (fun hg10 => ?_))
  ·exact zM rfl rfl (zF rfl rfl (zM rfl rfl (zF rfl rfl (zM rfl rfl (jX rfl rfl Try.underlying29 (zM rfl rfl (zI rfl rfl rfl jR (jI rfl rfl rfl (zA (xW (.cons (by simp_all [look] <;> omega) sbn) sbl))))))))))
  ·exact jH rfl rfl rfl (jH rfl rfl rfl (jH rfl rfl rfl (jH rfl rfl rfl (jQ rfl rfl rfl (zA (xW (.cons (by simp_all [look] <;> omega) sbn) sbl))))))
 refine zA (zC (zN rfl (fun hc0 => ?_) (fun hc0 => ?_)))
 ·obtain ⟨hk1, hk2, hk3⟩ := hk
  obtain ⟨ba, oa, hAe, hba, hca⟩ := hA.outer om
  obtain ⟨bb, ob, hBe, hbb, hcb⟩ := hB.outer om
  obtain ⟨x, hx⟩ : ∃ x, l[k]? = some x := ⟨_, List.getElem?_eq_getElem hc0.1⟩
  obtain ⟨y, hy⟩ : ∃ x, m[k]? = some x := ⟨_, List.getElem?_eq_getElem hc0.2⟩
  have hix := hA.inner x (List.mem_of_getElem? hx)
  have hiy := hB.inner y (List.mem_of_getElem? hy)
  have hlx := hl2 x (List.mem_of_getElem? hx)
  have hly := hm2 y (List.mem_of_getElem? hy)
  obtain ⟨xA, xc, xl⟩ := x
  obtain ⟨yA, yc, yl⟩ := y
  dsimp only at hix hiy hlx hly
  have hxm : (l.map (·.2.2))[k]? = some xl := by rw [List.getElem?_map, hx]; rfl
  have hym : (m.map (·.2.2))[k]? = some yl := by rw [List.getElem?_map, hy]; rfl
  refine zQ (zC (zD (zS (zD (kD [] F.follows 10 rfl [false, false, false, false, false, false, false, false, false, false] rfl (zG 0 rfl rfl rfl (zP rfl) (zG 1 rfl rfl rfl (zP rfl) (zG 2 rfl rfl rfl (kM (j := k) (show _ = some (Value.slice (some ⟨ba, oa, none⟩) l.length ca) from by rw [<- hAe]; rfl) rfl Try.underlying29 F.ti22 rfl hc0.1) (zG 3 rfl rfl rfl (jP (v := .slice xA xl.length xc) rfl F.one22 (fun a w ha => ha.old (hca k _ hx 0 _ rfl) hba)) (zG 4 rfl rfl rfl (zP rfl) (zG 5 rfl rfl rfl (zP rfl) (zG 6 rfl rfl rfl (kM (j := k) (show _ = some (Value.slice (some ⟨bb, ob, none⟩) m.length cb) from by rw [<- hBe]; rfl) rfl Try.underlying29 F.ti22 rfl hc0.2) (zG 7 rfl rfl rfl (jP (v := .slice yA yl.length yc) rfl F.one22 (fun a w ha => ha.old (hcb k _ hy 0 _ rfl) hbb)) (an1 8 rfl (jM (v := .bool (decide (xl = yl))) (vs := [_, _]) rfl rfl F.ent46 (fun a w ha => zTp hlx hly w (hix.later ha.below) (hiy.later ha.below)) (zA (anb (zG 9 rfl rfl rfl (zJm rfl) ?_))))))))))))))))))
  refine adn (zC (qD rfl (fun hc1 => ?_) (fun hc1 => ?_)))
  ·exact zD (zB (zE rfl rfl (zA (zC (zY (jW (jB (jB (jW (jB (jJ rfl (fun a w ha => jO rfl rfl ha) (fun a w ha => ⟨by rw [decide_eq_false (fun e => by rw [e, hym] at hxm; cases hxm; simp at hc1)], ha.grown nsl⟩))))))))))))
  ·refine zQ (zJ (zC (zB (zF rfl rfl (zI rfl rfl rfl (fun w => jK w (zT _ om om)) (zE rfl rfl (zA (qY (k + 1) ⟨by omega, by omega, by rw [List.take_add_one, List.take_add_one, hxm, hym, hk3]; rw [show xl = yl from by simpa using hc1]⟩ tdo sbn sbl))))))))
 ·obtain ⟨hk1, hk2, hk3⟩ := hk
  exact jU (zO (zO (jF (zC (zD (zB (zF rfl rfl (jX rfl rfl Try.underlying29 (zF rfl rfl (jX rfl rfl Try.underlying29 (zI rfl rfl rfl jY (zE rfl rfl (zA (zC (zY (jJ rfl (fun a w ha => jO rfl rfl ha) (fun a w ha => ⟨by rw [zO4 (l := l.map (·.2.2)) (m := m.map (·.2.2)) (by simpa using hk1) (by simpa using hk2) hk3 (by simpa using hc0)]; simp, ha.grown nsl⟩)))))))))))))))))

theorem zD6 (k : Nat) (w : World) : Calls Try.prog 42 #[.int .i64 (k : Int)] w fun e w' => ∃ b5 b7, e = .returned (.agg [.slice (some ⟨b5, 0, none⟩) 2 2, .int .i64 (k : Int), .slice (some ⟨b7, 0, none⟩) 3 3].toArray) ∧ Grew w w' [.blk b7 (.cells (ints hds).toArray 3 (0, 0)), .blk b5 (.cells (hfs.flatMap Flt.cells).toArray 49 (0, 0))] := by
 refine enter (N := 9) [(0, .int .i64 (k : Int))] Try.func42 rfl Try.ntmps42 rfl rfl (zD (zB (zX rfl F.ti27 ?_)))
 intro b2
 refine zA (zC (zD (zB (kG (vs := [(0, _), (1, _), (2, _)]) (l' := [_, _, _, _]) rfl rfl F.ti49 F.pl49 (.cons rfl rfl (.cons rfl rfl (.cons rfl rfl (.nil _)))) rfl (kG (vs := [(0, _), (1, _), (2, _)]) (l' := [_, _, _, _]) rfl rfl F.ti49 F.pl49 (.cons rfl rfl (.cons rfl rfl (.cons rfl rfl (.nil _)))) rfl (yV (vs := [(0, .agg (Flt.cells ⟨3, 1, 3, false⟩).toArray), (1, .agg (Flt.cells ⟨2, 1, 1, false⟩).toArray)]) (hfs.flatMap Flt.cells) rfl rfl Try.underlying25 F.ti49 rfl rfl rfl (Lit.agg (l1 := Flt.cells ⟨3, 1, 3, false⟩) rfl (Lit.agg (l1 := Flt.cells ⟨2, 1, 1, false⟩) (l := []) rfl rfl)) ?_))))))
 intro b5
 refine zF rfl rfl (jV (vs := [(0, _), (1, _), (2, _)]) rfl rfl Try.underlying22 F.ti3 rfl rfl rfl ?_)
 intro b7
 exact kG (vs := [(0, _), (1, _), (2, _)]) (l' := [_, _, _]) rfl rfl F.ti27 F.pl27 (.cons rfl rfl (.cons rfl rfl (.cons rfl rfl (.nil _)))) rfl (zH rfl rfl F.ti27 rfl (zA (zC (zY (jJ rfl (fun a w ha => by exact xC (ha := ha) rfl rfl F.agg27 F.ti27 rfl) (fun a w ha => ⟨b5, b7, rfl, ha.grown (.cons_cons _ (.cons_cons _ nsl))⟩))))))

theorem zXa  (w : World) : Calls Try.prog 45 #[] w fun e w' => ∃ b5 b7, e = .returned (.agg [.slice (some ⟨b5, 0, none⟩) 2 2, .int .i64 1, .slice (some ⟨b7, 0, none⟩) 2 2].toArray) ∧ Grew w w' [.blk b7 (.cells (ints tds).toArray 3 (0, 0)), .blk b5 (.cells (tfs.flatMap Flt.cells).toArray 49 (0, 0))] := by
 refine enter (N := 6) [] Try.func45 rfl Try.ntmps45 rfl rfl (zD (zB (zX rfl F.ti27 ?_)))
 intro b0
 refine zA (zC (zD (zB (kG (vs := [(0, _), (1, _), (2, _)]) (l' := [_, _, _, _]) rfl rfl F.ti49 F.pl49 (.cons rfl rfl (.cons rfl rfl (.cons rfl rfl (.nil _)))) rfl (kG (vs := [(0, _), (1, _), (2, _)]) (l' := [_, _, _, _]) rfl rfl F.ti49 F.pl49 (.cons rfl rfl (.cons rfl rfl (.cons rfl rfl (.nil _)))) rfl (yV (vs := [(0, .agg (Flt.cells ⟨2, 1, 1, false⟩).toArray), (1, .agg (Flt.cells ⟨2, 1, 1, false⟩).toArray)]) (tfs.flatMap Flt.cells) rfl rfl Try.underlying25 F.ti49 rfl rfl rfl (Lit.agg (l1 := Flt.cells ⟨2, 1, 1, false⟩) rfl (Lit.agg (l1 := Flt.cells ⟨2, 1, 1, false⟩) (l := []) rfl rfl)) ?_))))))
 intro b5
 refine jV (vs := [(0, _), (1, _)]) rfl rfl Try.underlying22 F.ti3 rfl rfl rfl ?_
 intro b7
 exact kG (vs := [(0, _), (1, _), (2, _)]) (l' := [_, _, _]) rfl rfl F.ti27 F.pl27 (.cons rfl rfl (.cons rfl rfl (.cons rfl rfl (.nil _)))) rfl (zH rfl rfl F.ti27 rfl (zA (zC (zY (jJ rfl (fun a w ha => by exact xC (ha := ha) rfl rfl F.agg27 F.ti27 rfl) (fun a w ha => ⟨b5, b7, rfl, ha.grown (.cons_cons _ (.cons_cons _ nsl))⟩))))))

theorem zR2  (w : World) : Calls Try.prog 44 #[] w fun e w' => ∃ b1 b2 b3 b4, e = .returned (.slice (some ⟨b4, 0, none⟩) 3 3) ∧ Grew w w' [.blk b4 (.cells [.slice (some ⟨b1, 0, none⟩) 2 2, .slice (some ⟨b2, 0, none⟩) 2 2, .slice (some ⟨b3, 0, none⟩) 2 2].toArray 22 (0, 0)), .blk b3 (.cells [.int .i64 0, .int .i64 0].toArray 3 (0, 0)), .blk b2 (.cells [.int .i64 3, .int .i64 0].toArray 3 (0, 0)), .blk b1 (.cells [.int .i64 0, .int .i64 2].toArray 3 (0, 0))] := by
 refine enter (N := 5) [] Try.func44 rfl Try.ntmps44 rfl rfl (zD (zB (zE rfl rfl (zA (zC (zD (zB (jV (vs := [(0, _), (1, _)]) rfl rfl Try.underlying22 F.ti3 rfl rfl rfl ?_))))))))
 intro b1
 refine jV (vs := [(0, _), (1, _)]) rfl rfl Try.underlying22 F.ti3 rfl rfl rfl ?_
 intro b2
 refine jV (vs := [(0, _), (1, _)]) rfl rfl Try.underlying22 F.ti3 rfl rfl rfl ?_
 intro b3
 refine jV (vs := [(0, _), (1, _), (2, _)]) rfl rfl Try.underlying29 F.ti22 rfl rfl rfl ?_
 intro b4
 exact zE rfl rfl (zA (zC (zY (jJ rfl (fun a w ha => jO rfl rfl ha) (fun a w ha => ⟨b1, b2, b3, b4, rfl, ha.grown (.cons_cons _ (.cons_cons _ (.cons_cons _ (.cons_cons _ nsl))))⟩)))))

end Go.Proofs.Yteppiphdbondeaa.N
namespace Go.Proofs.Yteppiphdbondeaa.N
open Go Go.RowKit Go.Proofs
set_option linter.unusedSectionVars false
variable {days l1 l2 l3 : List Nat} {fs : List Flt} {kiln : Nat} {mr : List Meta}
theorem mr2 (h : mr.reverse.map (·.2.2) = [l1, l2]) : ∃ a b : Option Addr × Nat, mr = [(b.1, b.2, l2), (a.1, a.2, l1)] := by
 have hl : mr.length = 2 := by simpa using congrArg List.length h
 match mr, hl with
 | [(q1, q2, q3), (p1, p2, p3)], _ =>
  simp at h
  obtain ⟨rfl, rfl⟩ := h
  exact ⟨(p1, p2), (q1, q2), rfl⟩
theorem mr3 (h : mr.reverse.map (·.2.2) = [l1, l2, l3]) : ∃ a b c : Option Addr × Nat, mr = [(c.1, c.2, l3), (b.1, b.2, l2), (a.1, a.2, l1)] := by
 have hl : mr.length = 3 := by simpa using congrArg List.length h
 match mr, hl with
 | [(r1, r2, r3), (q1, q2, q3), (p1, p2, p3)], _ =>
  simp at h
  obtain ⟨rfl, rfl, rfl⟩ := h
  exact ⟨(p1, p2), (q1, q2), (r1, r2), rfl⟩
theorem mr4 {l4 : List Nat} (h : mr.reverse.map (·.2.2) = [l1, l2, l3, l4]) : ∃ a b c d : Option Addr × Nat, mr = [(d.1, d.2, l4), (c.1, c.2, l3), (b.1, b.2, l2), (a.1, a.2, l1)] := by
 have hl : mr.length = 4 := by simpa using congrArg List.length h
 match mr, hl with
 | [(s1, s2, s3), (r1, r2, r3), (q1, q2, q3), (p1, p2, p3)], _ =>
  simp at h
  obtain ⟨rfl, rfl, rfl, rfl⟩ := h
  exact ⟨(p1, p2), (q1, q2), (r1, r2), (s1, s2), rfl⟩
theorem zM5 (h : (rchM fs kiln days).isEmpty = false) : ∃ m, Rch fs kiln days m := by
 cases hl : rchM fs kiln days with
 | nil => rw [hl] at h; cases h
 | cons m l => exact ⟨m, jAe.1 (by rw [hl]; simp)⟩
theorem zTd (h : (rchM fs kiln days).isEmpty = true) (m : Mor) : ¬ Rch fs kiln days m := fun hm => by
 have := jAe.2 hm
 rw [List.isEmpty_iff.1 h] at this
 cases this
theorem zU7 {P : Nat -> Prop} {q : Prop} (h : (∃ d, d < hds.length ∧ (∀ j, j < d -> ∃ m, Rch hfs 0 (hds.take (j + 1)) m) ∧ (∀ m, ¬ Rch hfs 0 (hds.take (d + 1)) m) ∧ P d) ∨ ((∀ j, j < hds.length -> ∃ m, Rch hfs 0 (hds.take (j + 1)) m) ∧ q)) : P 2 := by
 rcases h with ⟨d, h1, h2, h3, h4⟩ | ⟨h1, _⟩
 ·rcases d with _ | _ | _ | d
  ·obtain ⟨m, hm⟩ := zM5 zZ0
   exact absurd hm (h3 m)
  ·obtain ⟨m, hm⟩ := zM5 zZw
   exact absurd hm (h3 m)
  ·exact h4
  ·exact absurd h1 (by simp [hds])
 ·obtain ⟨m, hm⟩ := h1 2 (by decide)
  exact absurd hm (zTd zZu m)
end Go.Proofs.Yteppiphdbondeaa.N
namespace Go.Proofs.Yteppiphdbondeaa.N
open Go Go.RowKit Go.Proofs
set_option linter.unusedSectionVars false
variable [I : Sys]
theorem F.ent15 : Enters Try.prog 15 := jD Try.func15 rfl (by kernel_rfl)
theorem F.ent17 : Enters Try.prog 17 := jD Try.func17 rfl (by kernel_rfl)
theorem F.ent19 : Enters Try.prog 19 := jD Try.func19 rfl (by kernel_rfl)
theorem F.ent21 : Enters Try.prog 21 := jD Try.func21 rfl (by kernel_rfl)
theorem F.ent23 : Enters Try.prog 23 := jD Try.func23 rfl (by kernel_rfl)
theorem F.ent28 : Enters Try.prog 28 := jD Try.func28 rfl (by kernel_rfl)
theorem F.ent33 : Enters Try.prog 33 := jD Try.func33 rfl (by kernel_rfl)
theorem F.ent42 : Enters Try.prog 42 := jD Try.func42 rfl (by kernel_rfl)
theorem F.ent44 : Enters Try.prog 44 := jD Try.func44 rfl (by kernel_rfl)
theorem F.ent45 : Enters Try.prog 45 := jD Try.func45 rfl (by kernel_rfl)
theorem zKs [R : ReaC] (w : World) (hR : RdC w) : Calls Try.prog 20 #[] w fun e w' => e = .returned (.bool true) ∧ Grew w w' [] := by
 refine enter (N := 125) [] Try.func20 rfl Try.ntmps20 rfl rfl (zD (zB (zE rfl rfl (zA (zC (zD (zB (qK (X := Nat × Nat) (vs := [_]) (p := fun _ => True) (val := fun g => .agg [.slice (some ⟨g.1, 0, none⟩) 2 2, .int .i64 1, .slice (some ⟨g.2, 0, none⟩) 3 3].toArray) (rs := fun g => [.blk g.2 (.cells (ints hds).toArray 3 (0, 0)), .blk g.1 (.cells (hfs.flatMap Flt.cells).toArray 49 (0, 0))]) rfl rfl F.ent42 (fun a w ha => (zD6 1 w).mono (fun e w' h => by obtain ⟨b5, b7, h1, h2⟩ := h; exact ⟨(b5, b7), trivial, h1, h2⟩)) ?_))))))))
 rintro ⟨f1, d1⟩ -
 dsimp only [List.cons_append, List.nil_append]
 refine qK (X := Option Addr × Nat × (Option Addr × Nat) × (Option Addr × Nat) × (Option Addr × Nat)) (vs := [_]) (p := fun _ => True) (val := fun g => .tuple #[.slice g.1 3 g.2.1, .int .i64 1, .int .i64 0]) (rs := fun g => [.row 22 1 g.1 3 g.2.1 [.slice g.2.2.1.1 2 g.2.2.1.2, .slice g.2.2.2.1.1 2 g.2.2.2.1.2, .slice g.2.2.2.2.1 2 g.2.2.2.2.2], .row 3 1 g.2.2.2.2.1 2 g.2.2.2.2.2 (ints [0, 0]), .row 3 1 g.2.2.2.1.1 2 g.2.2.2.1.2 (ints [3, 0]), .row 3 1 g.2.2.1.1 2 g.2.2.1.2 (ints [0, 2])]) rfl rfl F.ent15 (fun a w ha => ?_) ?_
 ·refine (zMz (fA := some ⟨f1, 0, none⟩) (dA := some ⟨d1, 0, none⟩) (fc := 2) (dc := 3) (fs := hfs) (days := hds) (kiln := 1) (hv (by decide)) w (kO ha (cells := Flt.cells) (size := 4) (b := f1) (l := hfs) (fun _ => rfl) rfl) (kO ha (cells := ncell) (size := 1) (b := d1) (l := hds) (fun _ => rfl) rfl)).mono ?_
  rintro e w' ⟨oA, oc, mr, hcase, hg⟩
  rcases hcase with ⟨h1, h2, h3⟩ | ⟨h1, _⟩
  ·rw [zWe] at h2
   obtain ⟨a, b, c, rfl⟩ := mr3 h2
   rw [zKv] at h3
   exact ⟨(oA, oc, a, b, c), trivial, h3, hg⟩
  ·rw [zKv] at h1; cases h1
 rintro ⟨A1, c1, ⟨p1, q1⟩, ⟨p2, q2⟩, ⟨p3, q3⟩⟩ -
 dsimp only [List.cons_append, List.nil_append]
 refine zF rfl rfl (zW rfl rfl rfl (zW rfl rfl rfl (zW rfl rfl rfl (zE rfl rfl (zE rfl rfl (zE rfl rfl (zA (zC (zD (zB (qK (X := Nat × Nat) (vs := [_]) (p := fun _ => True) (val := fun g => .agg [.slice (some ⟨g.1, 0, none⟩) 2 2, .int .i64 1, .slice (some ⟨g.2, 0, none⟩) 3 3].toArray) (rs := fun g => [.blk g.2 (.cells (ints hds).toArray 3 (0, 0)), .blk g.1 (.cells (hfs.flatMap Flt.cells).toArray 49 (0, 0))]) rfl rfl F.ent42 (fun a w ha => (zD6 1 w).mono (fun e w' h => by obtain ⟨b5, b7, h1, h2⟩ := h; exact ⟨(b5, b7), trivial, h1, h2⟩)) ?_)))))))))))
 rintro ⟨f2, d2⟩ -
 dsimp only [List.cons_append, List.nil_append]
 refine qK (X := Nat × Nat × Nat × Nat) (vs := []) (p := fun _ => True) (val := fun g => .slice (some ⟨g.2.2.2, 0, none⟩) 3 3) (rs := fun g => [.blk g.2.2.2 (.cells [.slice (some ⟨g.1, 0, none⟩) 2 2, .slice (some ⟨g.2.1, 0, none⟩) 2 2, .slice (some ⟨g.2.2.1, 0, none⟩) 2 2].toArray 22 (0, 0)), .blk g.2.2.1 (.cells [.int .i64 0, .int .i64 0].toArray 3 (0, 0)), .blk g.2.1 (.cells [.int .i64 3, .int .i64 0].toArray 3 (0, 0)), .blk g.1 (.cells [.int .i64 0, .int .i64 2].toArray 3 (0, 0))]) rfl rfl F.ent44 (fun a w ha => (zR2 w).mono (fun e w' h => by obtain ⟨b1, b2, b3, b4, h1, h2⟩ := h; exact ⟨(b1, b2, b3, b4), trivial, h1, h2⟩)) ?_
 rintro ⟨j1, j2, j3, j4⟩ -
 dsimp only [List.cons_append, List.nil_append]
 refine qK (X := Option Addr × Nat × (Option Addr × Nat) × (Option Addr × Nat) × (Option Addr × Nat) × (Option Addr × Nat)) (vs := [_, _]) (p := fun _ => True) (val := fun g => .tuple #[.slice g.1 4 g.2.1, .int .i64 1, .int .i64 0]) (rs := fun g => [.row 22 1 g.1 4 g.2.1 [.slice g.2.2.1.1 2 g.2.2.1.2, .slice g.2.2.2.1.1 2 g.2.2.2.1.2, .slice g.2.2.2.2.1.1 2 g.2.2.2.2.1.2, .slice g.2.2.2.2.2.1 2 g.2.2.2.2.2.2], .row 3 1 g.2.2.2.2.2.1 2 g.2.2.2.2.2.2 (ints [0, 0]), .row 3 1 g.2.2.2.2.1.1 2 g.2.2.2.2.1.2 (ints [3, 0]), .row 3 1 g.2.2.2.1.1 2 g.2.2.2.1.2 (ints [0, 2]), .row 3 1 g.2.2.1.1 2 g.2.2.1.2 (ints [3, 1])]) rfl rfl F.ent17 (fun a w ha => ?_) ?_
 ·refine (zMk (fA := some ⟨f2, 0, none⟩) (dA := some ⟨d2, 0, none⟩) (fc := 2) (dc := 3) (fs := hfs) (days := hds) (kiln := 1) (pA := some ⟨j4, 0, none⟩) (pc := 3) (ms := [(some ⟨j1, 0, none⟩, 2, [0, 2]), (some ⟨j2, 0, none⟩, 2, [3, 0]), (some ⟨j3, 0, none⟩, 2, [0, 0])]) (hv (by decide)) (by show 3 < 1000000; decide) (by intro x hx; simp only [List.mem_cons, List.not_mem_nil, or_false] at hx; rcases hx with rfl | rfl | rfl <;> (dsimp only; decide)) w (kO ha (cells := Flt.cells) (size := 4) (b := f2) (l := hfs) (fun _ => rfl) rfl) (kO ha (cells := ncell) (size := 1) (b := d2) (l := hds) (fun _ => rfl) rfl) ⟨kO ha (cells := fun m => [zmcell m]) (size := 1) (b := j4) (l := [(some ⟨j1, 0, none⟩, 2, [0, 2]), (some ⟨j2, 0, none⟩, 2, [3, 0]), (some ⟨j3, 0, none⟩, 2, [0, 0])]) (fun _ => rfl) rfl, fun m hm => by
   simp only [List.mem_cons, List.not_mem_nil, or_false] at hm
   rcases hm with rfl | rfl | rfl
   ·exact kO ha (cells := zcell) (size := 1) (b := j1) (l := [0, 2]) (fun _ => rfl) rfl
   ·exact kO ha (cells := zcell) (size := 1) (b := j2) (l := [3, 0]) (fun _ => rfl) rfl
   ·exact kO ha (cells := zcell) (size := 1) (b := j3) (l := [0, 0]) (fun _ => rfl) rfl⟩).mono ?_
  rintro e w' ⟨oA, oc, mr, h2, h3, hg⟩
  rw [show workE hfs 1 hds (List.map (fun x => x.2.2) ([(some ⟨j1, 0, none⟩, 2, [0, 2]), (some ⟨j2, 0, none⟩, 2, [3, 0]), (some ⟨j3, 0, none⟩, 2, [0, 0])] : List MetaZ)) = (0, [[3, 1], [0, 2], [3, 0], [0, 0]], 1) from zXe] at h2 h3
  obtain ⟨a, b, c, d, rfl⟩ := mr4 h2
  exact ⟨(oA, oc, a, b, c, d), trivial, h3, hg⟩
 rintro ⟨A2, c2, ⟨r1, s1⟩, ⟨r2, s2⟩, ⟨r3, s3⟩, ⟨r4, s4⟩⟩ -
 dsimp only [List.cons_append, List.nil_append]
 refine zF rfl rfl (zW rfl rfl rfl (zW rfl rfl rfl (zW rfl rfl rfl (zE rfl rfl (zE rfl rfl (zE rfl rfl (zA (zC (zD (zB (qK (X := Nat × Nat) (vs := [_]) (p := fun _ => True) (val := fun g => .agg [.slice (some ⟨g.1, 0, none⟩) 2 2, .int .i64 0, .slice (some ⟨g.2, 0, none⟩) 3 3].toArray) (rs := fun g => [.blk g.2 (.cells (ints hds).toArray 3 (0, 0)), .blk g.1 (.cells (hfs.flatMap Flt.cells).toArray 49 (0, 0))]) rfl rfl F.ent42 (fun a w ha => (zD6 0 w).mono (fun e w' h => by obtain ⟨b5, b7, h1, h2⟩ := h; exact ⟨(b5, b7), trivial, h1, h2⟩)) ?_)))))))))))
 rintro ⟨f3, d3⟩ -
 dsimp only [List.cons_append, List.nil_append]
 refine jM (v := .tuple #[.int .i64 2, .int .i64 0]) (vs := [_]) rfl rfl F.ent23 (fun a w ha => (zWm (fA := some ⟨f3, 0, none⟩) (dA := some ⟨d3, 0, none⟩) (fc := 2) (dc := 3) (fs := hfs) (days := hds) (kiln := 0) (hv (by decide)) (by decide) w (hR.later ha.below) (fun _ => ⟨f3, 0, none, _, _, rfl, ha.mem_blk (InB.mem (b := f3)), by decide⟩) (kO ha (cells := Flt.cells) (size := 4) (b := f3) (l := hfs) (fun _ => rfl) rfl) (kO ha (cells := ncell) (size := 1) (b := d3) (l := hds) (fun _ => rfl) rfl)).mono (fun e w' h => ⟨zU7 (P := fun d => e = .returned (.tuple #[.int .i64 (d : Int), .int .i64 0])) h.1, h.2⟩)) (zF rfl rfl (zW rfl rfl rfl (zW rfl rfl rfl (zE rfl rfl (zE rfl rfl (zA (zC (zD (zB (qK (X := Nat × Nat) (vs := []) (p := fun _ => True) (val := fun g => .agg [.slice (some ⟨g.1, 0, none⟩) 2 2, .int .i64 1, .slice (some ⟨g.2, 0, none⟩) 2 2].toArray) (rs := fun g => [.blk g.2 (.cells (ints tds).toArray 3 (0, 0)), .blk g.1 (.cells (tfs.flatMap Flt.cells).toArray 49 (0, 0))]) rfl rfl F.ent45 (fun a w ha => (zXa w).mono (fun e w' h => by obtain ⟨b5, b7, h1, h2⟩ := h; exact ⟨(b5, b7), trivial, h1, h2⟩)) ?_))))))))))
 rintro ⟨f4, d4⟩ -
 dsimp only [List.cons_append, List.nil_append]
 refine qK (X := Option Addr × Nat × (Option Addr × Nat) × (Option Addr × Nat)) (vs := [_]) (p := fun _ => True) (val := fun g => .tuple #[.slice g.1 2 g.2.1, .int .i64 2, .int .i64 0]) (rs := fun g => [.row 22 1 g.1 2 g.2.1 [.slice g.2.2.1.1 2 g.2.2.1.2, .slice g.2.2.2.1 2 g.2.2.2.2], .row 3 1 g.2.2.2.1 2 g.2.2.2.2 (ints [3, 0]), .row 3 1 g.2.2.1.1 2 g.2.2.1.2 (ints [0, 3])]) rfl rfl F.ent33 (fun a w ha => ?_) ?_
 ·refine (zWv (fA := some ⟨f4, 0, none⟩) (dA := some ⟨d4, 0, none⟩) (fc := 2) (dc := 2) (fs := tfs) (days := tds) (kiln := 1) tv1 w (kO ha (cells := Flt.cells) (size := 4) (b := f4) (l := tfs) (fun _ => rfl) rfl) (kO ha (cells := ncell) (size := 1) (b := d4) (l := tds) (fun _ => rfl) rfl)).mono ?_
  rintro e w' ⟨oA, oc, mr, hcase, hg⟩
  rcases hcase with ⟨h1, h2, h3⟩ | ⟨h1, _⟩
  ·rw [zUo] at h2
   obtain ⟨a, b, rfl⟩ := mr2 h2
   rw [zL5] at h3
   exact ⟨(oA, oc, a, b), trivial, h3, hg⟩
  ·rw [zL5] at h1; cases h1
 rintro ⟨A4, c4, ⟨t1, u1⟩, ⟨t2, u2⟩⟩ -
 dsimp only [List.cons_append, List.nil_append]
 refine zF rfl rfl (zW rfl rfl rfl (zW rfl rfl rfl (zW rfl rfl rfl (zE rfl rfl (zE rfl rfl (zE rfl rfl (zA (zC (zD (zB (qK (X := Nat × Nat) (vs := [_]) (p := fun _ => True) (val := fun g => .agg [.slice (some ⟨g.1, 0, none⟩) 2 2, .int .i64 0, .slice (some ⟨g.2, 0, none⟩) 3 3].toArray) (rs := fun g => [.blk g.2 (.cells (ints hds).toArray 3 (0, 0)), .blk g.1 (.cells (hfs.flatMap Flt.cells).toArray 49 (0, 0))]) rfl rfl F.ent42 (fun a w ha => (zD6 0 w).mono (fun e w' h => by obtain ⟨b5, b7, h1, h2⟩ := h; exact ⟨(b5, b7), trivial, h1, h2⟩)) ?_)))))))))))
 rintro ⟨f5, d5⟩ -
 dsimp only [List.cons_append, List.nil_append]
 refine kG (vs := [(0, _), (2, _)]) (l' := [_, _, _, _]) rfl rfl F.ti49 F.pl49 (.cons rfl rfl (.cons rfl rfl (.nil _))) rfl (yV (vs := [(0, .agg (Flt.cells ⟨2, 0, 2, false⟩).toArray)]) (ofs.flatMap Flt.cells) rfl rfl Try.underlying25 F.ti49 rfl rfl rfl (Lit.agg (l1 := Flt.cells ⟨2, 0, 2, false⟩) (l := []) rfl rfl) ?_)
 intro o5
 refine jM (v := .tuple #[.int .i64 0, .int .i64 0, .int .i64 0]) (vs := [_, _]) rfl rfl F.ent28 (fun a w ha => (zZx (fA := some ⟨f5, 0, none⟩) (dA := some ⟨d5, 0, none⟩) (fc := 2) (dc := 3) (fs := hfs) (days := hds) (kiln := 0) (oA := some ⟨o5, 0, none⟩) (oc := 1) (os := ofs) (hv (by decide)) (by decide) (by unfold FltOk; decide) (by decide) (by decide) w (kO ha (cells := Flt.cells) (size := 4) (b := f5) (l := hfs) (fun _ => rfl) rfl) (kO ha (cells := ncell) (size := 1) (b := d5) (l := hds) (fun _ => rfl) rfl) (kO ha (cells := Flt.cells) (size := 4) (b := o5) (l := ofs) (fun _ => rfl) rfl)).mono (fun e w' h => ⟨h.1.trans (by rw [show ofs.length = 1 from rfl, zYq]; rfl), h.2⟩)) (zF rfl rfl (zW rfl rfl rfl (zW rfl rfl rfl (zW rfl rfl rfl (zE rfl rfl (zE rfl rfl (zE rfl rfl (zA (zC (zD (zB (qK (X := Nat × Nat) (vs := [_]) (p := fun _ => True) (val := fun g => .agg [.slice (some ⟨g.1, 0, none⟩) 2 2, .int .i64 1, .slice (some ⟨g.2, 0, none⟩) 3 3].toArray) (rs := fun g => [.blk g.2 (.cells (ints hds).toArray 3 (0, 0)), .blk g.1 (.cells (hfs.flatMap Flt.cells).toArray 49 (0, 0))]) rfl rfl F.ent42 (fun a w ha => (zD6 1 w).mono (fun e w' h => by obtain ⟨b5, b7, h1, h2⟩ := h; exact ⟨(b5, b7), trivial, h1, h2⟩)) ?_))))))))))))
 rintro ⟨f6, d6⟩ -
 dsimp only [List.cons_append, List.nil_append]
 refine jM (v := .tuple #[.int .i64 1, .int .i64 0]) (vs := [_, _, _]) rfl rfl F.ent19 (fun a w ha => (zBx (fA := some ⟨f6, 0, none⟩) (dA := some ⟨d6, 0, none⟩) (fc := 2) (dc := 3) (fs := hfs) (days := hds) (kiln := 1) (f := 0) (day := 1) (hv (by decide)) (by decide) (by decide) w (kO ha (cells := Flt.cells) (size := 4) (b := f6) (l := hfs) (fun _ => rfl) rfl) (kO ha (cells := ncell) (size := 1) (b := d6) (l := hds) (fun _ => rfl) rfl)).mono (fun e w' h => ⟨h.1.trans (by rw [zWa]; rfl), h.2⟩)) (zF rfl rfl (zW rfl rfl rfl (zW rfl rfl rfl (zE rfl rfl (zE rfl rfl (zA (zC (zD (zB (zF rfl rfl (zI rfl rfl rfl jY (zF rfl rfl (zM rfl rfl (zF rfl rfl (zM rfl rfl (zI rfl rfl rfl jY (jI rfl rfl rfl (zF rfl rfl (zM rfl rfl (zF rfl rfl (zM rfl rfl (zI rfl rfl rfl jY (jI rfl rfl rfl (zF rfl rfl (zM rfl rfl (zF rfl rfl (zM rfl rfl (zI rfl rfl rfl jY (jI rfl rfl rfl (zF rfl rfl (zM rfl rfl (zF rfl rfl (zM rfl rfl (zI rfl rfl rfl jY (jI rfl rfl rfl (zF rfl rfl (zM rfl rfl (zF rfl rfl (zM rfl rfl (zI rfl rfl rfl jY (jI rfl rfl rfl (zF rfl rfl (zM rfl rfl (zF rfl rfl (zM rfl rfl (zI rfl rfl rfl jY (jI rfl rfl rfl (zF rfl rfl (zM rfl rfl (zF rfl rfl (zM rfl rfl (zI rfl rfl rfl jY (jI rfl rfl rfl (zF rfl rfl (zM rfl rfl (zF rfl rfl (zM rfl rfl (zI rfl rfl rfl jY (jI rfl rfl rfl (zF rfl rfl (zM rfl rfl (zF rfl rfl (zM rfl rfl (zI rfl rfl rfl jY (jI rfl rfl rfl (zF rfl rfl (zM rfl rfl (zF rfl rfl (zM rfl rfl (zI rfl rfl rfl jY (jI rfl rfl rfl (zF rfl rfl (zM rfl rfl (zF rfl rfl (zM rfl rfl (zI rfl rfl rfl jY (jI rfl rfl rfl (zF rfl rfl (zM rfl rfl (zF rfl rfl (zM rfl rfl (zI rfl rfl rfl jY (jI rfl rfl rfl (zF rfl rfl (zM rfl rfl (zF rfl rfl (zM rfl rfl (qK (X := Nat × Nat × Nat × Nat) (vs := []) (p := fun _ => True) (val := fun g => .slice (some ⟨g.2.2.2, 0, none⟩) 3 3) (rs := fun g => [.blk g.2.2.2 (.cells [.slice (some ⟨g.1, 0, none⟩) 2 2, .slice (some ⟨g.2.1, 0, none⟩) 2 2, .slice (some ⟨g.2.2.1, 0, none⟩) 2 2].toArray 22 (0, 0)), .blk g.2.2.1 (.cells [.int .i64 0, .int .i64 0].toArray 3 (0, 0)), .blk g.2.1 (.cells [.int .i64 3, .int .i64 0].toArray 3 (0, 0)), .blk g.1 (.cells [.int .i64 0, .int .i64 2].toArray 3 (0, 0))]) rfl rfl F.ent44 (fun a w ha => (zR2 w).mono (fun e w' h => by obtain ⟨b1, b2, b3, b4, h1, h2⟩ := h; exact ⟨(b1, b2, b3, b4), trivial, h1, h2⟩)) ?_))))))))))))))))))))))))))))))))))))))))))))))))))))))))))))))))))))))))))))))))))))))))
 rintro ⟨j5, j6, j7, j8⟩ -
 dsimp only [List.cons_append, List.nil_append]
 refine zM rfl rfl ?_
 refine jM (v := .bool true) (vs := [_, _]) rfl rfl F.ent21 (fun a w ha => (zC2 (A := A1) (B := some ⟨j8, 0, none⟩) (ca := c1) (cb := 3) (l := [(p1, q1, [0, 2]), (p2, q2, [3, 0]), (p3, q3, [0, 0])]) (m := [(some ⟨j5, 0, none⟩, 2, [0, 2]), (some ⟨j6, 0, none⟩, 2, [3, 0]), (some ⟨j7, 0, none⟩, 2, [0, 0])]) (by show 3 < 1000000; decide) (by show 3 < 1000000; decide) (by intro x hx; simp only [List.mem_cons, List.not_mem_nil, or_false] at hx; rcases hx with rfl | rfl | rfl <;> (dsimp only; decide)) (by intro x hx; simp only [List.mem_cons, List.not_mem_nil, or_false] at hx; rcases hx with rfl | rfl | rfl <;> (dsimp only; decide)) w ⟨qV ha (cells := fun m => [zmcell m]) (size := 1) (e := 22) (c := c1) (n := 3) (l := [(p1, q1, [0, 2]), (p2, q2, [3, 0]), (p3, q3, [0, 0])]) (fun _ => rfl) (InR.mem (A := A1)) rfl, fun m hm => by
   simp only [List.mem_cons, List.not_mem_nil, or_false] at hm
   rcases hm with rfl | rfl | rfl
   ·exact qV ha (cells := zcell) (size := 1) (e := 3) (c := q1) (n := 2) (l := [0, 2]) (fun _ => rfl) (InR.mem (A := p1)) rfl
   ·exact qV ha (cells := zcell) (size := 1) (e := 3) (c := q2) (n := 2) (l := [3, 0]) (fun _ => rfl) (InR.mem (A := p2)) rfl
   ·exact qV ha (cells := zcell) (size := 1) (e := 3) (c := q3) (n := 2) (l := [0, 0]) (fun _ => rfl) (InR.mem (A := p3)) rfl⟩ ⟨kO ha (cells := fun m => [zmcell m]) (size := 1) (b := j8) (l := [(some ⟨j5, 0, none⟩, 2, [0, 2]), (some ⟨j6, 0, none⟩, 2, [3, 0]), (some ⟨j7, 0, none⟩, 2, [0, 0])]) (fun _ => rfl) rfl, fun m hm => by
   simp only [List.mem_cons, List.not_mem_nil, or_false] at hm
   rcases hm with rfl | rfl | rfl
   ·exact kO ha (cells := zcell) (size := 1) (b := j5) (l := [0, 2]) (fun _ => rfl) rfl
   ·exact kO ha (cells := zcell) (size := 1) (b := j6) (l := [3, 0]) (fun _ => rfl) rfl
   ·exact kO ha (cells := zcell) (size := 1) (b := j7) (l := [0, 0]) (fun _ => rfl) rfl⟩).mono (fun e w' h => ⟨h.1.trans (by rfl), h.2⟩)) ?_
 refine jI rfl rfl rfl (zF rfl rfl (zM rfl rfl (zF rfl rfl (zM rfl rfl (jV (vs := [(0, _), (1, _)]) rfl rfl Try.underlying22 F.ti3 rfl rfl rfl ?_)))))
 intro b111
 refine zM rfl rfl (jV (vs := [(0, _), (1, _)]) rfl rfl Try.underlying22 F.ti3 rfl rfl rfl ?_)
 intro b112
 refine zM rfl rfl (jV (vs := [(0, _), (1, _)]) rfl rfl Try.underlying22 F.ti3 rfl rfl rfl ?_)
 intro b113
 refine zM rfl rfl (jV (vs := [(0, _), (1, _)]) rfl rfl Try.underlying22 F.ti3 rfl rfl rfl ?_)
 intro b114
 refine zM rfl rfl (jV (vs := [(0, _), (1, _), (2, _), (3, _)]) rfl rfl Try.underlying29 F.ti22 rfl rfl rfl ?_)
 intro b115
 refine zM rfl rfl ?_
 refine jM (v := .bool true) (vs := [_, _]) rfl rfl F.ent21 (fun a w ha => (zC2 (A := A2) (B := some ⟨b115, 0, none⟩) (ca := c2) (cb := 4) (l := [(r1, s1, [3, 1]), (r2, s2, [0, 2]), (r3, s3, [3, 0]), (r4, s4, [0, 0])]) (m := [(some ⟨b111, 0, none⟩, 2, [3, 1]), (some ⟨b112, 0, none⟩, 2, [0, 2]), (some ⟨b113, 0, none⟩, 2, [3, 0]), (some ⟨b114, 0, none⟩, 2, [0, 0])]) (by show 4 < 1000000; decide) (by show 4 < 1000000; decide) (by intro x hx; simp only [List.mem_cons, List.not_mem_nil, or_false] at hx; rcases hx with rfl | rfl | rfl | rfl <;> (dsimp only; decide)) (by intro x hx; simp only [List.mem_cons, List.not_mem_nil, or_false] at hx; rcases hx with rfl | rfl | rfl | rfl <;> (dsimp only; decide)) w ⟨qV ha (cells := fun m => [zmcell m]) (size := 1) (e := 22) (c := c2) (n := 4) (l := [(r1, s1, [3, 1]), (r2, s2, [0, 2]), (r3, s3, [3, 0]), (r4, s4, [0, 0])]) (fun _ => rfl) (InR.mem (A := A2)) rfl, fun m hm => by
   simp only [List.mem_cons, List.not_mem_nil, or_false] at hm
   rcases hm with rfl | rfl | rfl | rfl
   ·exact qV ha (cells := zcell) (size := 1) (e := 3) (c := s1) (n := 2) (l := [3, 1]) (fun _ => rfl) (InR.mem (A := r1)) rfl
   ·exact qV ha (cells := zcell) (size := 1) (e := 3) (c := s2) (n := 2) (l := [0, 2]) (fun _ => rfl) (InR.mem (A := r2)) rfl
   ·exact qV ha (cells := zcell) (size := 1) (e := 3) (c := s3) (n := 2) (l := [3, 0]) (fun _ => rfl) (InR.mem (A := r3)) rfl
   ·exact qV ha (cells := zcell) (size := 1) (e := 3) (c := s4) (n := 2) (l := [0, 0]) (fun _ => rfl) (InR.mem (A := r4)) rfl⟩ ⟨kO ha (cells := fun m => [zmcell m]) (size := 1) (b := b115) (l := [(some ⟨b111, 0, none⟩, 2, [3, 1]), (some ⟨b112, 0, none⟩, 2, [0, 2]), (some ⟨b113, 0, none⟩, 2, [3, 0]), (some ⟨b114, 0, none⟩, 2, [0, 0])]) (fun _ => rfl) rfl, fun m hm => by
   simp only [List.mem_cons, List.not_mem_nil, or_false] at hm
   rcases hm with rfl | rfl | rfl | rfl
   ·exact kO ha (cells := zcell) (size := 1) (b := b111) (l := [3, 1]) (fun _ => rfl) rfl
   ·exact kO ha (cells := zcell) (size := 1) (b := b112) (l := [0, 2]) (fun _ => rfl) rfl
   ·exact kO ha (cells := zcell) (size := 1) (b := b113) (l := [3, 0]) (fun _ => rfl) rfl
   ·exact kO ha (cells := zcell) (size := 1) (b := b114) (l := [0, 0]) (fun _ => rfl) rfl⟩).mono (fun e w' h => ⟨h.1.trans (by rfl), h.2⟩)) ?_
 refine jI rfl rfl rfl (zF rfl rfl (zM rfl rfl (zF rfl rfl (zM rfl rfl (jV (vs := [(0, _), (1, _)]) rfl rfl Try.underlying22 F.ti3 rfl rfl rfl ?_)))))
 intro b120
 refine zM rfl rfl (jV (vs := [(0, _), (1, _)]) rfl rfl Try.underlying22 F.ti3 rfl rfl rfl ?_)
 intro b121
 refine zM rfl rfl (jV (vs := [(0, _), (1, _)]) rfl rfl Try.underlying29 F.ti22 rfl rfl rfl ?_)
 intro b122
 refine zM rfl rfl ?_
 refine jM (v := .bool true) (vs := [_, _]) rfl rfl F.ent21 (fun a w ha => (zC2 (A := A4) (B := some ⟨b122, 0, none⟩) (ca := c4) (cb := 2) (l := [(t1, u1, [0, 3]), (t2, u2, [3, 0])]) (m := [(some ⟨b120, 0, none⟩, 2, [0, 3]), (some ⟨b121, 0, none⟩, 2, [3, 0])]) (by show 2 < 1000000; decide) (by show 2 < 1000000; decide) (by intro x hx; simp only [List.mem_cons, List.not_mem_nil, or_false] at hx; rcases hx with rfl | rfl <;> (dsimp only; decide)) (by intro x hx; simp only [List.mem_cons, List.not_mem_nil, or_false] at hx; rcases hx with rfl | rfl <;> (dsimp only; decide)) w ⟨qV ha (cells := fun m => [zmcell m]) (size := 1) (e := 22) (c := c4) (n := 2) (l := [(t1, u1, [0, 3]), (t2, u2, [3, 0])]) (fun _ => rfl) (InR.mem (A := A4)) rfl, fun m hm => by
   simp only [List.mem_cons, List.not_mem_nil, or_false] at hm
   rcases hm with rfl | rfl
   ·exact qV ha (cells := zcell) (size := 1) (e := 3) (c := u1) (n := 2) (l := [0, 3]) (fun _ => rfl) (InR.mem (A := t1)) rfl
   ·exact qV ha (cells := zcell) (size := 1) (e := 3) (c := u2) (n := 2) (l := [3, 0]) (fun _ => rfl) (InR.mem (A := t2)) rfl⟩ ⟨kO ha (cells := fun m => [zmcell m]) (size := 1) (b := b122) (l := [(some ⟨b120, 0, none⟩, 2, [0, 3]), (some ⟨b121, 0, none⟩, 2, [3, 0])]) (fun _ => rfl) rfl, fun m hm => by
   simp only [List.mem_cons, List.not_mem_nil, or_false] at hm
   rcases hm with rfl | rfl
   ·exact kO ha (cells := zcell) (size := 1) (b := b120) (l := [0, 3]) (fun _ => rfl) rfl
   ·exact kO ha (cells := zcell) (size := 1) (b := b121) (l := [3, 0]) (fun _ => rfl) rfl⟩).mono (fun e w' h => ⟨h.1.trans (by rfl), h.2⟩)) ?_
 exact jI rfl rfl rfl (zE rfl rfl (zA (zC (zY (jJ rfl (fun a w ha => jO rfl rfl ha) (fun a w ha => ⟨rfl, ha.grown nsl⟩))))))

variable {k : Nat} {l : List Nat}
theorem zA9 (z : Int) : ∃ m : Nat, m < 18446744073709551616 ∧ IntKind.u64.wrap z = (m : Int) := by
 refine ⟨(IntKind.u64.wrap z).toNat, ?_, ?_⟩
 ·simp [IntKind.wrap, IntKind.signed, IntKind.bits]
  omega
 ·simp [IntKind.wrap, IntKind.signed, IntKind.bits]
  omega
theorem xor64 {a b : Nat} (ha : a < 18446744073709551616) (hb : b < 18446744073709551616) : a ^^^ b < 18446744073709551616 := Nat.xor_lt_two_pow (n := 64) ha hb
theorem shr64 {a : Nat} (k : Nat) (ha : a < 18446744073709551616) : a >>> k < 18446744073709551616 := Nat.lt_of_le_of_lt (by rw [Nat.shiftRight_eq_div_pow]; exact Nat.div_le_self _ _) ha
theorem zK2 {m : Nat} (h : m < 18446744073709551615) : IntKind.u64.wrap ((m : Int) + 1) = ((m + 1 : Nat) : Int) := by
 have := zHq (m + 1) om
 simpa using this
theorem zTc (x m : Nat) : (x : Int).tmod ((m : Nat) : Int) = ((x % m : Nat) : Int) := (Int.ofNat_tmod x m).symm
class Pul (b : Nat) (o : outParam Obj) (hp : List Res) (T : outParam (List Res)) : Prop where
 perm : hp.Perm (.blk b o :: T)
instance Pul.tail (b : Nat) (o : Obj) (x : Res) (l T : List Res) [h : Pul b o l T] : Pul b o (x :: l) (x :: T) := ⟨(h.perm.cons x).trans (.swap _ _ _)⟩
instance Pul.head (b : Nat) (o : Obj) (l : List Res) : Pul b o (.blk b o :: l) l := ⟨.refl _⟩
section
variable {C : Ctx} {fr : List (Nat × Value)} {hp hp' : List Res} {a : Act} {w : World} {ops : Array Oper} {Q : Exit -> Act -> World -> Prop} {rest : List Oper}
 {d : Nat} {ty : TypeId} {pos : String} {after : Array Edge}
theorem wI {X : Type} (b : Nat) {o : Obj} (o' : X -> Obj) {T : List Res} {f : FuncId} {vs : List Value} {args : Array Operand} {ts : Array TypeId} (p : X -> Prop) (val : X -> Value) [hq : Pul b o hp T] (hd : Nat.blt d C.N = true)
  (hargs : args.toList.map (ev fr) = vs.map some) (hf : Enters C.P f)
  (hc : ∀ a w, At C fr (.blk b o :: T) a w -> Calls C.P f vs.toArray w fun e w' => ∃ y, p y ∧ e = .returned (val y) ∧ At C fr (.blk b (o' y) :: T) a w')
  (k : ∀ y, p y -> Lst C ops Q rest ((d, val y) :: fr) (.blk b (o' y) :: T)) : Lst C ops Q (⟨some d, .call { callee := .value (.func f), args := args, argTypes := ts }, ty, pos, after, none⟩ :: rest) fr hp := by
 refine xB (first := []) (cap := []) (p := p) (val := val) (rs := fun y => .blk b (o' y) :: T) hd rfl hargs hf (fun a w ha => ?_) k
 simp only [List.nil_append, List.append_nil]
 exact hc a w (ha.permed hq.perm)
end
def hatO (nA : Option Addr) (n nc tk st : Nat) : Obj := .cells [.slice nA n nc, .int .i64 (tk : Int), .int .u64 (st : Int)].toArray 72 (0, 0)
theorem zTm (h : k < l.length) : (ints l)[k]? = some (.int .i64 ((l.getD k 0 : Nat) : Int)) := by
 unfold ints
 rw [List.getElem?_map, List.getElem?_eq_getElem h, List.getD_eq_getElem?_getD, List.getElem?_eq_getElem h]
 rfl
theorem zU5 (h : k < l.length) : l.getD k 0 ∈ l := by
 rw [List.getD_eq_getElem?_getD, List.getElem?_eq_getElem h]
 exact List.getElem_mem h
end Go.Proofs.Yteppiphdbondeaa.N
