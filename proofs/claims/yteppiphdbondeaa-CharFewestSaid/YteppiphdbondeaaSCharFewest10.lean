/- Parts of the walk of the law CharFewest: ChAO, T47, ChRow, RowC, RowC2. -/
import Derived.Test.YteppiphdbondeaaSCharFewest09
import Derived.Test.YteppiphdbondeaaProg
import Derived.Test.YteppiphdbondeaaSCharFewest03
import Derived.Test.YteppiphdbondeaaSCharFewest07
import Derived.Test.YteppiphdbondeaaSCharFewest05
import Derived.Test.YteppiphdbondeaaRows
import Derived.ChangeSame
import Derived.ChangeVars
import Derived.JoinedOf
import Derived.RowKit
import Derived.RowKitTokens
import Derived.WitnessAt
import Derived.Stop.Joined
import Derived.ProofKit
import Derived.SizedLaws
import Derived.OpenShut
import Derived.Conc.Holds
namespace Go.Proofs.Yteppiphdbondeaa.N
open Go Go.RowKit Go.Proofs
set_option linter.unusedSectionVars false
variable {L : List (List (List Nat))} {d f i n : Nat} {p : List (List Nat)}
def bsI : Option Nat -> Int
 | none => -1
 | some b => b
theorem zS3 (c : Nat -> Nat) (k : Nat) : (9999 <= c k ∧ bstI c (k + 1) = bstI c k) ∨ (c k < 9999 ∧ bstI c k = none ∧ bstI c (k + 1) = some k) ∨ (∃ b, c k < 9999 ∧ bstI c k = some b ∧ b < k ∧ c k < c b ∧ bstI c (k + 1) = some k) ∨ (∃ b, c k < 9999 ∧ bstI c k = some b ∧ b < k ∧ c b <= c k ∧ bstI c (k + 1) = some b) := by
 have e : bstI c (k + 1) = if c k < 9999 ∧ (∀ b, bstI c k = some b -> c k < c b) then some k else bstI c k := rfl
 by_cases h : c k < 9999
 ·cases hb : bstI c k with
  | none => exact .inr (.inl ⟨h, rfl, by rw [e, if_pos ⟨h, fun b h => by rw [hb] at h; cases h⟩]⟩)
  | some b =>
   have hbk : b < k := by
    rcases zFy c k with ⟨h1, _⟩ | ⟨b', h1, h2, _⟩
    ·rw [hb] at h1; cases h1
    ·rw [hb] at h1; cases h1; exact h2
   by_cases h2 : c k < c b
   ·exact .inr (.inr (.inl ⟨b, h, rfl, hbk, h2, by rw [e, if_pos ⟨h, fun b' h => by rw [hb] at h; cases h; exact h2⟩]⟩))
   ·exact .inr (.inr (.inr ⟨b, h, rfl, hbk, by omega, by rw [e, if_neg (fun h => h2 (h.2 b hb)), hb]⟩))
 ·exact .inl ⟨by omega, by rw [e, if_neg (fun h' => h h'.1)]⟩
section
variable {fs : List Flt} {kiln : Nat} {days : List Nat}
theorem zWl (h : L[i]? = some p) : smB fs kiln days n f d (L.take (i + 1)) = (smB fs kiln days n f d (L.take i) || (decide (cst fs kiln days p / 100 = n) && decide ((p.getD d []).getD f 0 = 3))) := by
 unfold smB
 rw [List.take_add_one, h, List.any_append]
 simp
theorem zWj (h : L[i]? = some p) : evB fs kiln days n f d (L.take (i + 1)) = (evB fs kiln days n f d (L.take i) && (!decide (cst fs kiln days p / 100 = n) || decide ((p.getD d []).getD f 0 = 3))) := by
 unfold evB
 rw [List.take_add_one, h, List.all_append]
 simp
theorem zSk (h : (bstA fs kiln days).is = false) : verdO (bstF fs kiln days f d true) (bstF fs kiln days f d false) = (0, 11) := by
 have key : ∀ b, (bstF fs kiln days f d b).is = false := fun b => by
  cases hb : (bstF fs kiln days f d b).is with
  | false => rfl
  | true =>
   obtain ⟨p, hp⟩ := zA2 days.length (start fs) hb
   obtain ⟨p1, p2, _⟩ := zDx hp
   have := (zBu (zD4 (alw := fun _ _ => true) p1 p2 (fun _ _ _ => rfl))).1
   have : (bstA fs kiln days).is = true := this
   rw [h] at this
   cases this
 unfold verdO
 rw [if_pos ⟨key true, key false⟩]
theorem zL6 (h3 : fs.length <= 3) (hd : days.length <= 4) (hp : p ∈ allP fs.length days.length) : cst fs kiln days p <= 9999 := by
 unfold cst
 split
 ·exact Nat.le_refl _
 ·rename_i h0
  have hpth := zD4 (kiln := kiln) (alw := fun _ _ => true) hp om (fun _ _ _ => rfl)
  obtain ⟨h1, h2⟩ := (vF _ _ _).1 hp
  have := zGy h3 p h2
  have hf : (workE fs kiln days (p.map zl)).2.2 <= days.length := by
   obtain ⟨⟨outs, hc⟩, _⟩ := zKf hpth (Nat.le_refl _)
   rw [hc.fires, <- h1]
   exact spF_sum2 p
  omega
where spF_sum2 : ∀ P : List (List Nat), (P.map spF).sum <= P.length
 | [] => Nat.le_refl _
 | l :: P => by rw [List.map_cons, List.sum_cons, List.length_cons]; have := spF_sum2 P; have := zCp l; omega
end
theorem xP [I : Sys] {C : Ctx} {fr : List (Nat × Value)} {hp hpS : List Res} {ops : Array Oper} {Q : Exit -> Act -> World -> Prop} {fuel : Nat} {ty : TypeId} {pos : String} {after : Array Edge} {listed listed' : Array Bool} {dst : Option Tmp} {op : Op} {j t : Nat} {b : Bool} (i : Nat) (hi : ops[i]? = some ⟨dst, op, ty, pos, after, some (j, b)⟩) (hj : (ops[j]?).bind (·.dst) = some t) (hv : look fr t = some undef) (hdst : dst = some d) (hd : Nat.blt d C.N = true) (hns : Region.noSelect ops = true)
  (hf : Region.free .any ops listed i = true) (hr : (Region.ready .any ops listed).contains i = true) (hs : hpS.Sublist hp) (hl : listed.setIfInBounds i true = listed') (k : Any C ops Q hpS fuel listed' ((d, undef) :: fr) hp) : Any C ops Q hpS (fuel + 1) listed fr hp := by
 intro a w ha
 refine zAb (v := undef) Mem.rely (fun _ _ _ h hr => h.rely hr) hi hns hf hr (fun c a w h => h.elim fun _ h => h.1.elim) (.inr ⟨?_, rfl⟩) (ha.toMem hs) ?_
 ·simp [Region.wanted, zGf ha hj hv]
 ·rw [hl]
  show wpAnyH _ _ _ _ _ _ _ (a.put dst undef) w
  rw [hdst]
  exact k _ _ (ha.put (kC hd) undef)
theorem Grew.none [_I : Sys] {w w' : World} {rs : List Res} (h : Grew w w' rs) : Grew w w' [] := ⟨h.1, (fun _ h => by cases h), List.nodup_nil⟩
end Go.Proofs.Yteppiphdbondeaa.N
namespace Go.Proofs.Yteppiphdbondeaa.N
open Go Go.RowKit Go.Proofs
set_option linter.unusedSectionVars false
variable [I : Sys]
variable {days : List Nat} {fs : List Flt} {kiln : Nat}
theorem F.ent16 : Enters Try.prog 16 := jD Try.func16 rfl (by kernel_rfl)
theorem F.ent18 : Enters Try.prog 18 := jD Try.func18 rfl (by kernel_rfl)
theorem zVm [I : Sys] {C : Ctx} {fr : List (Nat × Value)} {hp hp' : List Res} {ops : Array Oper} {Q : Exit -> Act -> World -> Prop} {l : List Oper} (p : Pck hp' hp) (h : Lst C ops Q l fr hp') : Lst C ops Q l fr hp := fun a w ha => h a w (ha.pck p)
theorem zQn {P : List (List Nat)} {n : Nat} (hd : days.length <= n) (hp : P.length = days.length) : (workE fs kiln days (P.map zl)).2.2 <= n := by
 rcases Nat.eq_zero_or_pos (workE fs kiln days (P.map zl)).1 with h | h
 ·obtain ⟨h1, outs, _, h3⟩ := zOf h
  rw [h3.fires]
  have := zO2 P
  omega
 ·unfold workE at h ⊢
  rw [List.length_map] at h ⊢
  by_cases h1 : szd (P.length : Int) days.length days.length ≠ 0
  ·rw [if_pos h1]; exact Nat.zero_le _
  ·rw [if_neg h1] at h ⊢
   by_cases h2 : (wk fs kiln days (P.map zl) 0 (start fs)).1 ≠ 0
   ·rw [if_pos h2]; exact Nat.zero_le _
   ·rw [if_neg h2] at h; exact absurd h (Nat.lt_irrefl 0)
theorem zVe {L : List (List (List Nat))} {b k : Nat} (hb : b < k) (hl : b < L.length) : (ints ((L.take k).map (cst fs kiln days)))[b]? = some (.int .i64 ((cst fs kiln days (L.getD b []) : Nat) : Int)) := by
 refine zAz ?_
 rw [List.getElem?_map, List.getElem?_take, if_pos hb, List.getD_eq_getElem?_getD, List.getElem?_eq_getElem hl]
 rfl

set_option maxRecDepth 4000 in
theorem zMi [R : ReaC] (nA : Option Addr) (nc : Nat) (nums : List Int) (w : World) (hN : RdL icell 1 w nA nums) (hR : RdC w) : Calls Try.prog 3 #[.slice nA nums.length nc] w fun e w' => e = .returned (.bool true) ∧ Grew w w' [] := by
 refine enter (N := 209) [(0, .slice nA nums.length nc)] Try.func3 rfl Try.ntmps3 rfl rfl (zD (zB (zE rfl rfl (zA (zC (zD (zB (zF rfl rfl (qK (X := Nat) (vs := [_]) (p := fun _ => True) (val := fun b => pt b) (rs := fun b => [.blk b (hatO nA nums.length nc 0 11400714819323198485)]) rfl rfl F.ent13 (fun a w ha => (zTk nA nums.length nc w).mono (fun e w' h => by obtain ⟨b, h1, h2⟩ := h; exact ⟨b, trivial, h1, h2⟩)) ?_)))))))))
 intro hb _
 dsimp only [List.cons_append, List.nil_append]
 refine zE rfl rfl (zA (zC (zD (zB (zF rfl rfl (xB (X := Nat × Nat × Nat × List Flt × List Nat × Option Addr × Option Addr × Nat × Nat) (first := []) (cap := []) (vs := [_, _, _]) (p := fun y => y.1 <= 100 ∧ y.2.1 < 18446744073709551616 ∧ ChV y.2.2.2.1 y.2.2.1 y.2.2.2.2.1 ∧ y.2.2.2.1.length <= 2 ∧ y.2.2.2.2.1.length <= 2) (val := fun y => .agg [.slice y.2.2.2.2.2.1 y.2.2.2.1.length y.2.2.2.2.2.2.2.1, .int .i64 (y.2.2.1 : Int), .slice y.2.2.2.2.2.2.1 y.2.2.2.2.1.length y.2.2.2.2.2.2.2.2].toArray) (rs := fun y => [.row 49 4 y.2.2.2.2.2.1 y.2.2.2.1.length y.2.2.2.2.2.2.2.1 (y.2.2.2.1.flatMap Flt.cells), .row 3 1 y.2.2.2.2.2.2.1 y.2.2.2.2.1.length y.2.2.2.2.2.2.2.2 (ints y.2.2.2.2.1), .blk hb (hatO nA nums.length nc y.1 y.2.1)]) rfl rfl rfl F.ent14 (fun a w ha => (zUm (C := ⟨Try.prog, _, _, _, _⟩) (T := []) (tk := 0) (nf := 2) (ny := 2) rfl rfl hN om om om om om om ha).mono (fun e w' h => by obtain ⟨t', s', k', f', d', A', D', c', dc', h1, h2, h3, h4, h5, h6, h7⟩ := h; exact ⟨(t', s', k', f', d', A', D', c', dc'), ⟨by omega, h2, h5, h3, h4⟩, h6, h7⟩)) ?_))))))
 rintro ⟨tk, st, kiln, fs, days, A, D, c, dc⟩ ⟨htk, hst, hc, hnf, hny⟩
 dsimp only at htk hst hc hnf hny ⊢
 refine zX rfl F.ti27 ?_
 intro b4
 refine zH rfl rfl F.ti27 rfl (zA (zC (zD (zB ?_))))
 have hf1 := hc.f1
 have hd1 := hc.d1
 refine jE rfl rfl F.agg27 F.ti27 ?_
 refine qK (X := Option Addr × Nat × List Meta) (vs := [_]) (p := fun g => ((bstA fs kiln days).is = false -> g.2.2 = []) ∧ ((bstA fs kiln days).is = true -> g.2.2.reverse.map (·.2.2) = planA fs kiln days) ∧ g.2.2.length <= 4 ∧ ∀ m ∈ g.2.2, m.2.2.length = fs.length) (val := fun g => .tuple #[.slice (if (bstA fs kiln days).is = true then g.1 else none) g.2.2.length (if (bstA fs kiln days).is = true then g.2.1 else 0), .int .i64 ((oF (bstA fs kiln days) : Nat) : Int), .int .i64 ((oE (bstA fs kiln days) : Nat) : Int)]) (rs := fun g => .row 22 1 g.1 g.2.2.length g.2.1 (g.2.2.reverse.map mcell) :: g.2.2.map mrow) rfl rfl F.ent15 (fun a w ha => (zMz hc w (zA8 (A := A) ha rfl) (zAy (A := D) ha rfl)).mono (fun e w' h => ?_)) ?_
 ·obtain ⟨oA, oc, mr, h1, h2⟩ := h
  rcases h1 with ⟨h3, h4, h5⟩ | ⟨h3, h4, h5⟩
  ·refine ⟨(oA, oc, mr), ⟨fun e => (by rw [h3] at e; cases e), fun _ => h4, zTq hc h3 h4⟩, ?_, h2⟩
   rw [h5]
   simp [oF, oE, h3]
  ·subst h4
   refine ⟨(oA, oc, []), ⟨fun _ => rfl, fun e => (by rw [h3] at e; cases e), Nat.zero_le _, fun _ h => by cases h⟩, ?_, h2⟩
   rw [h5]
   simp [oF, oE, h3]
 rintro ⟨fA, fc, fr⟩ ⟨hfe, hfp, hfl4, hfrl⟩
 dsimp only at hfe hfp hfl4 hfrl ⊢
 refine zE6 (List.Perm.cons _ List.perm_append_comm) ?_
 simp only [List.cons_append, List.nil_append]
 refine zF rfl rfl (zW rfl rfl rfl (zW rfl rfl rfl (zW rfl rfl rfl (zE rfl rfl (zE rfl rfl (zE rfl rfl (zA (zC (zD (zB (jE rfl rfl F.agg27 F.ti27 (qK (X := (Option Addr × Nat) × List PMeta × List Meta) (vs := [_]) (p := fun y => y.2.1.reverse.map plist = (allP fs.length days.length) ∧ ∀ p ∈ y.2.1, ∀ m ∈ p.2.2, m ∈ y.2.2) (val := fun y => .slice y.1.1 y.2.1.length y.1.2) (rs := fun y => .row 29 1 y.1.1 y.2.1.length y.1.2 (y.2.1.reverse.map pcell) :: (y.2.1.map prow ++ y.2.2.map mrow)) rfl rfl F.ent16 (fun a w ha => (zZz om om w).mono (fun e w' h => by obtain ⟨A', c', L', S', h1, h2, h3, h4⟩ := h; exact ⟨((A', c'), L', S'), ⟨h1, h2⟩, h3, h4⟩)) ?_))))))))))))
 rintro ⟨⟨A8, c8⟩, L, S⟩ ⟨hL, hLS⟩
 dsimp only at hL hLS ⊢
 have hLl : L.length = (allP fs.length days.length).length := by have h := congrArg List.length hL; simpa using h
 have hL256 := zVs (n := fs.length) (d := days.length) om om
 refine zE6 (List.Perm.cons _ List.perm_append_comm) ?_
 simp only [List.cons_append]
 refine zVm (hp' := .row 29 1 A8 L.length c8 (L.reverse.map pcell) :: .row 22 1 fA fr.length fc (fr.reverse.map mcell) :: .blk b4 (.cells [.slice A fs.length c, .int .i64 (kiln : Int), .slice D days.length dc].toArray 27 (0, 0)) :: .row 49 4 A fs.length c (fs.flatMap Flt.cells) :: .row 3 1 D days.length dc (ints days) :: ((L.map prow ++ S.map mrow) ++ fr.map mrow)) (.cons (.here _) (.cons (.here _) (.cons (.here _) (.cons (.here _) (.cons (.here _) (.skip _ (.perm List.perm_append_comm (.refl _)))))))) (zD8 A8 (by rw [hLl, zAr]; exact Nat.pow_pos (Nat.pow_pos (by decide))) ?_)
 intro g8 hg8
 refine zE rfl rfl (zA (zC (zD (zB (zE rfl rfl (zA (zC (zD (zB (zE rfl rfl (zA (zC (zD (zD (zB (zE rfl rfl (zA (zC (zS (zA5 3 1 (qW (G := Nat × Option Addr × Nat) (fun g => g.1 <= L.length) (fun g => L.length - g.1) (fun g => [(4, pt b4), (5, .slice (if (bstA fs kiln days).is = true then fA else none) fr.length (if (bstA fs kiln days).is = true then fc else 0)), (6, .int .i64 ((oF (bstA fs kiln days) : Nat) : Int)), (7, .int .i64 ((oE (bstA fs kiln days) : Nat) : Int)), (8, .slice A8 L.length c8), (9, .slice g.2.1 g.1 g.2.2), (10, .int .i64 (bsI (bstI (fun i => cst fs kiln days ((allP fs.length days.length).getD i [])) g.1))), (11, .int .i64 (g.1 : Int))]) (fun g => .row 3 1 g.2.1 g.1 g.2.2 (ints (((allP fs.length days.length).take g.1).map (cst fs kiln days))) :: .row 29 1 A8 L.length c8 (L.reverse.map pcell) :: .row 22 1 fA fr.length fc (fr.reverse.map mcell) :: .blk b4 (.cells [.slice A fs.length c, .int .i64 (kiln : Int), .slice D days.length dc].toArray 27 (0, 0)) :: .row 49 4 A fs.length c (fs.flatMap Flt.cells) :: .row 3 1 D days.length dc (ints days) :: ((L.map prow ++ S.map mrow) ++ fr.map mrow)) (0, none, 0) (Nat.zero_le _) sbn pkk ?_)))))))))))))))))))))
 rintro ⟨k, C9, d9⟩ hk0
 dsimp only at hk0 ⊢
 refine zD (zD (zB (zF rfl rfl (zF rfl rfl (jX rfl rfl Try.underlying33 (zI rfl rfl rfl jR ?_))))))
 refine zA (zC (zN rfl (fun hc0 => ?_) (fun hc0 => ?_)))
 ·have hk : k < L.length := by omega
  obtain ⟨p, hp⟩ : ∃ x, L.reverse[k]? = some x := ⟨_, List.getElem?_eq_getElem (by simp; omega)⟩
  have hpL : p ∈ L := List.mem_reverse.1 (List.mem_of_getElem? hp)
  have hpl : (allP fs.length days.length)[k]? = some (plist p) := vN hL hp
  have hpm := List.mem_of_getElem? hpl
  obtain ⟨hpa, hpb⟩ := (vF _ _ _).1 hpm
  have hplen : p.2.2.length = days.length := by unfold plist at hpa; simpa using hpa
  have hpml : ∀ m ∈ p.2.2, m.2.2.length = fs.length := fun m hm => by
   obtain ⟨y, h1, h2, _⟩ := (vV _ _ _).1 (hpb m.2.2 (List.mem_map_of_mem hm))
   rw [h1]; simpa using h2
  have hck : (cst fs kiln days) ((allP fs.length days.length).getD k []) = (cst fs kiln days) (plist p) := by rw [List.getD_eq_getElem?_getD, hpl]; rfl
  have hzl : (p.2.2.map zmeta).map (·.2.2) = (plist p).map zl := by unfold plist; rw [List.map_map, List.map_map]; rfl
  have hcl := zL6 (kiln := kiln) hc.f3 hc.d4 hpm
  have hwl := zOi (p := p.2.2) (n := 2) (fun m hm => by rw [hpml m hm]; exact hnf)
  have hwl4 : (p.2.2.map fun m => spW m.2.2).sum <= 4 := Nat.le_trans hwl om
  have hfl : ((workE fs kiln days ((plist p).map zl))).2.2 <= 2 := zQn om hpa
  refine zQ (zC (zD (zS (zD (kD [] F.follows 13 rfl [false, false, false, false, false, false, false, false, false, false, false, false, false] rfl (zG 0 rfl rfl rfl (qL rfl F.agg27 F.ti27) (zG 1 rfl rfl rfl (zP rfl) (zG 2 rfl rfl rfl (zP rfl) (zG 3 rfl rfl rfl (kM (j := k) (show _ = some (Value.slice (some ⟨g8, 0, none⟩) L.length c8) from by rw [<- hg8]; rfl) rfl Try.underlying33 F.ti29 rfl hk) (zG 4 rfl rfl rfl (jP (v := .slice p.1 p.2.2.length p.2.1) rfl F.one29 (fun a w ha => kU ha (InR.mem (A := A8)) hg8 (by rw [show 0 + k * 1 = k from by omega]; exact wK hp))) (an1 5 rfl ?_)))))))))))
  refine qK (X := Option Addr × Nat × Nat) (vs := [_, _]) (p := fun _ => True) (val := fun g => .tuple #[.slice g.1 g.2.1 g.2.2, .int .i64 ((((workE fs kiln days ((plist p).map zl))).2.2 : Nat) : Int), .int .i64 ((((workE fs kiln days ((plist p).map zl))).1 : Nat) : Int)]) (rs := fun _ => []) rfl rfl F.ent17 (fun a w ha => ?_) ?_
  ·have h := zMk (fc := c) (dc := dc) (pc := p.2.1) (ms := p.2.2.map zmeta) hc (by simp; omega) (fun x hx => by obtain ⟨y, hy, rfl⟩ := List.mem_map.1 hx; have := hpml y hy; unfold zmeta; rw [zBs]; omega) w (zA8 (A := A) ha rfl) (zAy (A := D) ha rfl) (zJk ha (p := p) (by repeat (first | exact List.mem_append_left _ (List.mem_append_left _ (List.mem_map_of_mem hpL)) | apply List.Mem.tail)) (fun m hm => (show mrow m ∈ _ from (by repeat (first | exact List.mem_append_left _ (List.mem_append_right _ (List.mem_map_of_mem (hLS p hpL m hm))) | apply List.Mem.tail))))).z
   rw [hzl, List.length_map] at h
   refine h.mono (fun e w' h => ?_)
   obtain ⟨qA, qc, qr, h1, h2, h3⟩ := h
   exact ⟨(qA, qr.length, qc), trivial, h2, h3.none⟩
  rintro ⟨qA, qn, qc⟩ -
  dsimp only [List.nil_append]
  refine zA (anb (zG 6 rfl rfl rfl (zP rfl) (zG 7 rfl rfl rfl (kZ rfl rfl) (zG 8 rfl rfl rfl (kZ rfl rfl) (zG 9 rfl rfl rfl (kZ rfl rfl) (zG 10 rfl rfl rfl (jZ rfl) (zG 11 rfl rfl rfl (jZ rfl) (zG 12 rfl rfl rfl (jZ rfl) (adn (zC (zD (zB (zF rfl rfl (zF rfl rfl (zI (v := .int .i64 ((100 * ((workE fs kiln days ((plist p).map zl))).2.2 : Nat) : Int)) rfl rfl rfl (fun w => zGt w (by rw [zT _ om om]; omega)) (zF rfl rfl (zF rfl rfl (qE (j := k) rfl (show _ = some (Value.slice (some ⟨g8, 0, none⟩) L.length c8) from by rw [<- hg8]; rfl) rfl Try.underlying33 F.ti29 rfl hk (kN (v := .slice p.1 p.2.2.length p.2.1) rfl rfl F.one29 (fun a w ha => kU ha (InR.mem (A := A8)) hg8 (by rw [show 0 + k * 1 = k from by omega]; exact wK hp)) (jM (v := .int .i64 (((p.2.2.map fun m => spW m.2.2).sum : Nat) : Int)) (vs := [_]) rfl rfl F.ent18 (fun a w ha => zQq (pc := p.2.1) om (fun m hm => by rw [hpml m hm]; omega) w (zJk ha (p := p) (by repeat (first | exact List.mem_append_left _ (List.mem_append_left _ (List.mem_map_of_mem hpL)) | apply List.Mem.tail)) (fun m hm => (show mrow m ∈ _ from (by repeat (first | exact List.mem_append_left _ (List.mem_append_right _ (List.mem_map_of_mem (hLS p hpL m hm))) | apply List.Mem.tail)))))) (zI (v := .int .i64 ((100 * ((workE fs kiln days ((plist p).map zl))).2.2 + (p.2.2.map fun m => spW m.2.2).sum : Nat) : Int)) rfl rfl rfl (fun w => jK w (by rw [zT _ om om]; omega)) (jV (vs := [(0, _)]) rfl rfl Try.underlying22 F.ti3 rfl rfl rfl ?_))))))))))))))))))))))
  intro b62
  refine kL rfl rfl rfl Try.underlying22 F.ti3 rfl rfl rfl (by unfold maxLen; omega) om ?_
  intro C63 d63
  refine zE rfl rfl (zA (zC (zD (zD (zB (zF rfl rfl (zI rfl rfl rfl qO ?_)))))))
  refine zA (zC (xK (G := Unit) (fun _ => True) (fun _ => [(4, pt b4), (5, .slice (if (bstA fs kiln days).is = true then fA else none) fr.length (if (bstA fs kiln days).is = true then fc else 0)), (6, .int .i64 ((oF (bstA fs kiln days) : Nat) : Int)), (7, .int .i64 ((oE (bstA fs kiln days) : Nat) : Int)), (8, .slice A8 L.length c8), (9, .slice C63 (k + 1) d63), (10, .int .i64 (bsI (bstI (fun i => cst fs kiln days ((allP fs.length days.length).getD i [])) k))), (11, .int .i64 (k : Int))]) (fun _ => .row 3 1 C63 (k + 1) d63 (ints (((allP fs.length days.length).take (k + 1)).map (cst fs kiln days))) :: .row 29 1 A8 L.length c8 (L.reverse.map pcell) :: .row 22 1 fA fr.length fc (fr.reverse.map mcell) :: .blk b4 (.cells [.slice A fs.length c, .int .i64 (kiln : Int), .slice D days.length dc].toArray 27 (0, 0)) :: .row 49 4 A fs.length c (fs.flatMap Flt.cells) :: .row 3 1 D days.length dc (ints days) :: ((L.map prow ++ S.map mrow) ++ fr.map mrow)) ?_ ?_))
  ·refine zN rfl (fun hc1 => ?_) (fun hc1 => ?_)
   ·refine zB (zD8 C63 om ?_)
    intro g63 hg63
    refine zF rfl rfl (zF rfl rfl (qE (j := k) rfl (show _ = some (Value.slice (some ⟨g63, 0, none⟩) (k + 1) d63) from by rw [<- hg63]; rfl) rfl Try.underlying22 F.ti3 rfl om ?_))
    refine zLe (A := C63) (ints (((allP fs.length days.length).take (k + 1)).map (cst fs kiln days))) rfl rfl F.ti3 hg63 (by simp [ints, List.length_take]; omega) ?_ ?_
    ·rw [zBg hpl, zDa, show 0 + k * 1 = k from by omega, List.set_append_right _ _ (by simp [ints, List.length_take]; omega), show k - (ints (((allP fs.length days.length).take k).map (cst fs kiln days))).length = 0 from by simp [ints, List.length_take]; omega, List.set_cons_zero]
     rw [show (cst fs kiln days) (plist p) = 9999 from by unfold cst; rw [if_pos om]]
     rfl
    exact zA (jS () trivial sbn pkk)
   ·exact zQ (jS () trivial sbn (by rw [zBg hpl, zDa, show (cst fs kiln days) (plist p) = 100 * ((workE fs kiln days ((plist p).map zl))).2.2 + (p.2.2.map fun m => spW m.2.2).sum from by unfold cst; rw [if_neg om]; unfold plist; rw [List.map_map, List.map_map]; rfl]; repeat (first | exact Pck.nil _ | exact Pck.refl _ | (apply Pck.cons; focus ((repeat (first | exact Rem.here _ | apply Rem.there)); done)) | refine Pck.skip _ ?_)))
  ·rintro - -
   (try dsimp only)
   refine zC (zD (zCt (fun a w ha => yX (ha.own _ (InR.mem (A := C63))) om) ?_))
   rintro ⟨g63, hg63⟩
   have hcell : (ints (((allP fs.length days.length).take (k + 1)).map (cst fs kiln days)))[k]? = some (.int .i64 (((cst fs kiln days) (plist p) : Nat) : Int)) := by rw [zBg hpl]; exact zAz (by rw [List.getElem?_append_right (by simp [List.length_take]; omega)]; simp [List.length_take, show min k (allP fs.length days.length).length = k from by omega])
   have hcs := zS3 (fun i => cst fs kiln days ((allP fs.length days.length).getD i [])) k
   rw [hck] at hcs
   rcases hcs with ⟨hb1, hb2⟩ | ⟨hb1, hb2, hb3⟩ | ⟨b, hb1, hb2, hb3, hb4, hb5⟩ | ⟨b, hb1, hb2, hb3, hb4, hb5⟩
   ·refine kD [] F.follows 20 rfl [false, false, false, false, false, false, false, false, false, false, false, false, false, false, false, false, false, false, false, false] rfl (zG 0 rfl rfl rfl (zP rfl) (zG 1 rfl rfl rfl (zP rfl) (zG 2 rfl rfl rfl (kM (j := k) (show _ = some (Value.slice (some ⟨g63, 0, none⟩) (k + 1) d63) from by rw [<- hg63]; rfl) rfl Try.underlying22 F.ti3 rfl om) (zG 3 rfl rfl rfl (jP (v := .int .i64 (((cst fs kiln days) (plist p) : Nat) : Int)) rfl F.one3 (fun a w ha => kU ha (InR.mem (A := C63)) hg63 (by rw [show 0 + k * 1 = k from by omega]; exact hcell))) (zG 4 rfl rfl rfl (kS (v := .bool false) rfl rfl (fun w => by rw [jR, decide_eq_false om])) (zG 5 rfl rfl rfl (zP rfl) (jC 6 rfl rfl rfl rfl rfl kr kr kr sbl rfl (jC 7 rfl rfl rfl rfl rfl kr kr kr sbl rfl (jC 8 rfl rfl rfl rfl rfl kr kr kr sbl rfl (xP 9 rfl rfl rfl rfl rfl kr kr kr sbl rfl (xP 10 rfl rfl rfl rfl rfl kr kr kr sbl rfl (xP 11 rfl rfl rfl rfl rfl kr kr kr sbl rfl (xP 12 rfl rfl rfl rfl rfl kr kr kr sbl rfl (xP 13 rfl rfl rfl rfl rfl kr kr kr sbl rfl ?_))))))))))))))
    refine xP 14 rfl rfl rfl rfl rfl kr kr kr sbl rfl (xP 15 rfl rfl rfl rfl rfl kr kr kr sbl rfl (xP 16 rfl rfl rfl rfl rfl kr kr kr sbl rfl (xP 17 rfl rfl rfl rfl rfl kr kr kr sbl rfl (jC 18 rfl rfl rfl rfl rfl kr kr kr sbl rfl (zG 19 rfl rfl rfl (vD rfl rfl) (adn (zC (kI rfl (zQ (zJ (zC (zB (zF rfl rfl (zI rfl rfl rfl (fun w => jK w (zT _ om om)) (zE rfl rfl (zA (kP (k + 1, C63, d63) tdo tdo (by (try dsimp only); rw [hb2]; repeat (first | exact Sub.nil _ | refine Sub.cons rfl ?_)) pkk)))))))))))))))))
   ·refine kD [] F.follows 20 rfl [false, false, false, false, false, false, false, false, false, false, false, false, false, false, false, false, false, false, false, false] rfl (zG 0 rfl rfl rfl (zP rfl) (zG 1 rfl rfl rfl (zP rfl) (zG 2 rfl rfl rfl (kM (j := k) (show _ = some (Value.slice (some ⟨g63, 0, none⟩) (k + 1) d63) from by rw [<- hg63]; rfl) rfl Try.underlying22 F.ti3 rfl om) (zG 3 rfl rfl rfl (jP (v := .int .i64 (((cst fs kiln days) (plist p) : Nat) : Int)) rfl F.one3 (fun a w ha => kU ha (InR.mem (A := C63)) hg63 (by rw [show 0 + k * 1 = k from by omega]; exact hcell))) (zG 4 rfl rfl rfl (kS (v := .bool true) rfl rfl (fun w => by rw [jR, decide_eq_true om])) (zG 5 rfl rfl rfl (zP rfl) (zV 6 rfl rfl rfl rfl rfl kr kr kr sbl (zP rfl) rfl (zV 7 rfl rfl rfl rfl rfl kr kr kr sbl (kS (v := .bool true) rfl rfl (fun w => by rw [jR, decide_eq_true (by rw [hb2]; decide)])) rfl (zV 8 rfl rfl rfl rfl rfl kr kr kr sbl (zP rfl) rfl (jC 9 rfl rfl rfl rfl rfl kr kr kr sbl rfl (jC 10 rfl rfl rfl rfl rfl kr kr kr sbl rfl (jC 11 rfl rfl rfl rfl rfl kr kr kr sbl rfl (jC 12 rfl rfl rfl rfl rfl kr kr kr sbl rfl (jC 13 rfl rfl rfl rfl rfl kr kr kr sbl rfl ?_))))))))))))))
    refine jC 14 rfl rfl rfl rfl rfl kr kr kr sbl rfl (jC 15 rfl rfl rfl rfl rfl kr kr kr sbl rfl (jC 16 rfl rfl rfl rfl rfl kr kr kr sbl rfl (jC 17 rfl rfl rfl rfl rfl kr kr kr sbl rfl (zV 18 rfl rfl rfl rfl rfl kr kr kr sbl (vB rfl rfl) rfl (zG 19 rfl rfl rfl (vB rfl rfl) (adn (zC (kX rfl (zB (zF rfl rfl (zE rfl rfl (zA (zJ (zC (zB (zF rfl rfl (zI rfl rfl rfl (fun w => jK w (zT _ om om)) (zE rfl rfl (zA (kP (k + 1, C63, d63) tdo tdo (by (try dsimp only); rw [hb3]; repeat (first | exact Sub.nil _ | refine Sub.cons rfl ?_)) pkk))))))))))))))))))))
   ·refine kD [] F.follows 20 rfl [false, false, false, false, false, false, false, false, false, false, false, false, false, false, false, false, false, false, false, false] rfl (zG 0 rfl rfl rfl (zP rfl) (zG 1 rfl rfl rfl (zP rfl) (zG 2 rfl rfl rfl (kM (j := k) (show _ = some (Value.slice (some ⟨g63, 0, none⟩) (k + 1) d63) from by rw [<- hg63]; rfl) rfl Try.underlying22 F.ti3 rfl om) (zG 3 rfl rfl rfl (jP (v := .int .i64 (((cst fs kiln days) (plist p) : Nat) : Int)) rfl F.one3 (fun a w ha => kU ha (InR.mem (A := C63)) hg63 (by rw [show 0 + k * 1 = k from by omega]; exact hcell))) (zG 4 rfl rfl rfl (kS (v := .bool true) rfl rfl (fun w => by rw [jR, decide_eq_true om])) (zG 5 rfl rfl rfl (zP rfl) (zV 6 rfl rfl rfl rfl rfl kr kr kr sbl (zP rfl) rfl (zV 7 rfl rfl rfl rfl rfl kr kr kr sbl (kS (v := .bool false) rfl rfl (fun w => by rw [jR, decide_eq_false (by rw [hb2]; exact Int.not_lt.2 (Int.natCast_nonneg b))])) rfl (zV 8 rfl rfl rfl rfl rfl kr kr kr sbl (zP rfl) rfl (zV 9 rfl rfl rfl rfl rfl kr kr kr sbl (zP rfl) rfl (zV 10 rfl rfl rfl rfl rfl kr kr kr sbl (zP rfl) rfl (zV 11 rfl rfl rfl rfl rfl kr kr kr sbl (kM (j := k) (show _ = some (Value.slice (some ⟨g63, 0, none⟩) (k + 1) d63) from by rw [<- hg63]; rfl) rfl Try.underlying22 F.ti3 rfl om) rfl (zV 12 rfl rfl rfl rfl rfl kr kr kr sbl (jP (v := .int .i64 (((cst fs kiln days) (plist p) : Nat) : Int)) rfl F.one3 (fun a w ha => kU ha (InR.mem (A := C63)) hg63 (by rw [show 0 + k * 1 = k from by omega]; exact hcell))) rfl (zV 13 rfl rfl rfl rfl rfl kr kr kr sbl (zP rfl) rfl ?_))))))))))))))
    refine zV 14 rfl rfl rfl rfl rfl kr kr kr sbl (zP rfl) rfl ?_
    have hcb : (ints (((allP fs.length days.length).take (k + 1)).map (cst fs kiln days)))[b]? = some (.int .i64 (((cst fs kiln days) ((allP fs.length days.length).getD b []) : Nat) : Int)) := zVe om om
    refine zV 15 rfl rfl rfl rfl rfl kr kr kr sbl (kM (j := b) (show _ = some (Value.slice (some ⟨g63, 0, none⟩) (k + 1) d63) from by rw [<- hg63]; rfl) (show _ = some (Value.int .i64 (b : Int)) from by rw [show (b : Int) = bsI (bstI (fun i => cst fs kiln days ((allP fs.length days.length).getD i [])) k) from by rw [hb2]; rfl]; rfl) Try.underlying22 F.ti3 rfl om) rfl (zV 16 rfl rfl rfl rfl rfl kr kr kr sbl (jP (v := .int .i64 (((cst fs kiln days) ((allP fs.length days.length).getD b []) : Nat) : Int)) rfl F.one3 (fun a w ha => kU ha (InR.mem (A := C63)) hg63 (by rw [show 0 + b * 1 = b from by omega]; exact hcb))) rfl (zV 17 rfl rfl rfl rfl rfl kr kr kr sbl (kS (v := .bool true) rfl rfl (fun w => by rw [jR, decide_eq_true om])) rfl (zV 18 rfl rfl rfl rfl rfl kr kr kr sbl (vD rfl rfl) rfl (zG 19 rfl rfl rfl (vB rfl rfl) (adn (zC (kX rfl (zB (zF rfl rfl (zE rfl rfl (zA (zJ (zC (zB (zF rfl rfl (zI rfl rfl rfl (fun w => jK w (zT _ om om)) (zE rfl rfl (zA (kP (k + 1, C63, d63) tdo tdo (by (try dsimp only); rw [hb5]; repeat (first | exact Sub.nil _ | refine Sub.cons rfl ?_)) pkk)))))))))))))))))))
   ·refine kD [] F.follows 20 rfl [false, false, false, false, false, false, false, false, false, false, false, false, false, false, false, false, false, false, false, false] rfl (zG 0 rfl rfl rfl (zP rfl) (zG 1 rfl rfl rfl (zP rfl) (zG 2 rfl rfl rfl (kM (j := k) (show _ = some (Value.slice (some ⟨g63, 0, none⟩) (k + 1) d63) from by rw [<- hg63]; rfl) rfl Try.underlying22 F.ti3 rfl om) (zG 3 rfl rfl rfl (jP (v := .int .i64 (((cst fs kiln days) (plist p) : Nat) : Int)) rfl F.one3 (fun a w ha => kU ha (InR.mem (A := C63)) hg63 (by rw [show 0 + k * 1 = k from by omega]; exact hcell))) (zG 4 rfl rfl rfl (kS (v := .bool true) rfl rfl (fun w => by rw [jR, decide_eq_true om])) (zG 5 rfl rfl rfl (zP rfl) (zV 6 rfl rfl rfl rfl rfl kr kr kr sbl (zP rfl) rfl (zV 7 rfl rfl rfl rfl rfl kr kr kr sbl (kS (v := .bool false) rfl rfl (fun w => by rw [jR, decide_eq_false (by rw [hb2]; exact Int.not_lt.2 (Int.natCast_nonneg b))])) rfl (zV 8 rfl rfl rfl rfl rfl kr kr kr sbl (zP rfl) rfl (zV 9 rfl rfl rfl rfl rfl kr kr kr sbl (zP rfl) rfl (zV 10 rfl rfl rfl rfl rfl kr kr kr sbl (zP rfl) rfl (zV 11 rfl rfl rfl rfl rfl kr kr kr sbl (kM (j := k) (show _ = some (Value.slice (some ⟨g63, 0, none⟩) (k + 1) d63) from by rw [<- hg63]; rfl) rfl Try.underlying22 F.ti3 rfl om) rfl (zV 12 rfl rfl rfl rfl rfl kr kr kr sbl (jP (v := .int .i64 (((cst fs kiln days) (plist p) : Nat) : Int)) rfl F.one3 (fun a w ha => kU ha (InR.mem (A := C63)) hg63 (by rw [show 0 + k * 1 = k from by omega]; exact hcell))) rfl (zV 13 rfl rfl rfl rfl rfl kr kr kr sbl (zP rfl) rfl ?_))))))))))))))
    refine zV 14 rfl rfl rfl rfl rfl kr kr kr sbl (zP rfl) rfl ?_
    have hcb : (ints (((allP fs.length days.length).take (k + 1)).map (cst fs kiln days)))[b]? = some (.int .i64 (((cst fs kiln days) ((allP fs.length days.length).getD b []) : Nat) : Int)) := zVe om om
    refine zV 15 rfl rfl rfl rfl rfl kr kr kr sbl (kM (j := b) (show _ = some (Value.slice (some ⟨g63, 0, none⟩) (k + 1) d63) from by rw [<- hg63]; rfl) (show _ = some (Value.int .i64 (b : Int)) from by rw [show (b : Int) = bsI (bstI (fun i => cst fs kiln days ((allP fs.length days.length).getD i [])) k) from by rw [hb2]; rfl]; rfl) Try.underlying22 F.ti3 rfl om) rfl (zV 16 rfl rfl rfl rfl rfl kr kr kr sbl (jP (v := .int .i64 (((cst fs kiln days) ((allP fs.length days.length).getD b []) : Nat) : Int)) rfl F.one3 (fun a w ha => kU ha (InR.mem (A := C63)) hg63 (by rw [show 0 + b * 1 = b from by omega]; exact hcb))) rfl (zV 17 rfl rfl rfl rfl rfl kr kr kr sbl (kS (v := .bool false) rfl rfl (fun w => by rw [jR, decide_eq_false om])) rfl (zV 18 rfl rfl rfl rfl rfl kr kr kr sbl (vD rfl rfl) rfl (zG 19 rfl rfl rfl (vB rfl rfl) (adn (zC (kI rfl (zQ (zJ (zC (zB (zF rfl rfl (zI rfl rfl rfl (fun w => jK w (zT _ om om)) (zE rfl rfl (zA (kP (k + 1, C63, d63) tdo tdo (by (try dsimp only); rw [hb5, <- hb2]; repeat (first | exact Sub.nil _ | refine Sub.cons rfl ?_)) pkk))))))))))))))))
 ·obtain rfl : k = L.length := by omega
  rw [List.take_of_length_le om]
  have hlaw := zPw (fs := fs) (kiln := kiln) (days := days) hc.f3 hc.d4
  rw [<- hLl] at hlaw
  refine jU (zO (zO (jF (zC (zD (zD (zB (zF rfl rfl (zI rfl rfl rfl jR ?_)))))))))
  refine zA (zC (zN rfl (fun hc3 => ?_) (fun hc3 => ?_)))
  ·have his : (bstA fs kiln days).is = false := by
    rcases hlaw with ⟨_, h2⟩ | ⟨b, h1, _⟩
    ·exact h2
    ·rw [h1] at hc3; exact absurd hc3 (Int.not_lt.2 (Int.natCast_nonneg b))
   have hfr := hfe his
   subst hfr
   rw [show oE (bstA fs kiln days) = 11 from by unfold oE; rw [his]; rfl, show oF (bstA fs kiln days) = 0 from by unfold oF; rw [his]; rfl]
   exact zD (zB (jE rfl rfl F.agg27 F.ti27 (jM (v := .tuple #[.int .i64 0, .int .i64 11]) (vs := [_, _, _]) rfl rfl F.ent19 (fun a w ha => (zBx (fc := c) (dc := dc) (f := 0) (day := 0) hc om om w (zA8 (A := A) ha rfl) (zAy (A := D) ha rfl)).mono (fun e w' h => ⟨h.1.trans (by rw [zSk his]; rfl), h.2⟩)) (zF rfl rfl (zW rfl rfl rfl (zW rfl rfl rfl (zE rfl rfl (zE rfl rfl (zA (zC (zD (zB (zF rfl rfl (zI (v := .bool true) rfl rfl rfl (fun w => by rw [jY, decide_eq_true (by rfl)]) (zF rfl rfl (zM rfl rfl (zF rfl rfl (zM rfl rfl (zF rfl rfl (zM rfl rfl (zI (v := .bool true) rfl rfl rfl (fun w => by rw [jY, decide_eq_true (by rfl)]) (jI rfl rfl rfl (zF rfl rfl (zM rfl rfl (zF rfl rfl (zM rfl rfl (zI (v := .bool true) rfl rfl rfl (fun w => by rw [jY, decide_eq_true (by rfl)]) (jI rfl rfl rfl (zF rfl rfl (zM rfl rfl (zF rfl rfl (zM rfl rfl (jX rfl rfl Try.underlying29 (zM rfl rfl (zI (v := .bool true) rfl rfl rfl (fun w => by rw [jY, decide_eq_true (by rfl)]) (jI rfl rfl rfl (zF rfl rfl (zM rfl rfl (jM (v := .bool true) (vs := []) rfl rfl F.ent20 (fun a w ha => zKs w (hR.later ha.below)) (jI rfl rfl rfl (zE rfl rfl (zA (zC (zY (jB (jJ rfl (fun a w ha => jO rfl rfl ha) (fun a w ha => ⟨rfl, ha.grown nsl⟩)))))))))))))))))))))))))))))))))))))))))))))))
  ·obtain ⟨b, hb1, hb2, his, hb3, hb4⟩ : ∃ b, bstI (fun i => cst fs kiln days ((allP fs.length days.length).getD i [])) L.length = some b ∧ b < L.length ∧ (bstA fs kiln days).is = true ∧ (allP fs.length days.length)[b]? = some (planA fs kiln days) ∧ (cst fs kiln days) (planA fs kiln days) / 100 = (bstA fs kiln days).f := by
    rcases hlaw with ⟨h1, _⟩ | h
    ·rw [h1] at hc3; exact absurd (by decide) hc3
    ·exact h
   have hplan := hfp his
   rw [hb1, if_pos his, if_pos his, show oE (bstA fs kiln days) = 0 from by unfold oE; rw [his]; rfl, show oF (bstA fs kiln days) = (bstA fs kiln days).f from by unfold oF; rw [his]; rfl]
   obtain ⟨p, hp⟩ : ∃ x, L.reverse[b]? = some x := ⟨_, List.getElem?_eq_getElem (by simp; omega)⟩
   have hpL : p ∈ L := List.mem_reverse.1 (List.mem_of_getElem? hp)
   have hpl : plist p = planA fs kiln days := Option.some.inj ((vN hL hp).symm.trans hb3)
   have hcb : (ints ((allP fs.length days.length).map (cst fs kiln days)))[b]? = some (.int .i64 (((cst fs kiln days) (planA fs kiln days) : Nat) : Int)) := zAz (by rw [List.getElem?_map, hb3]; rfl)
   have hcp := zL6 (kiln := kiln) hc.f3 hc.d4 (List.mem_of_getElem? hb3)
   refine zCt (fun a w ha => yX (ha.own _ (InR.mem (A := C9))) om) ?_
   rintro ⟨g9, hg9⟩
   refine zQ (zC (zD (zD (zB (zF rfl rfl (zI (v := .bool false) rfl rfl rfl (fun w => by rw [qO, decide_eq_false (by simp)]) (zF rfl rfl (zM rfl rfl (zF rfl rfl (zM rfl rfl (zF rfl rfl (zM rfl rfl (zF rfl rfl (zM rfl rfl (qE (j := b) rfl (show _ = some (Value.slice (some ⟨g9, 0, none⟩) L.length d9) from by rw [<- hg9]; rfl) (show _ = some (Value.int .i64 (b : Int)) from rfl) Try.underlying22 F.ti3 rfl hb2 (zM rfl rfl (kN (v := .int .i64 (((cst fs kiln days) (planA fs kiln days) : Nat) : Int)) rfl rfl F.one3 (fun a w ha => kU ha (InR.mem (A := C9)) hg9 (by rw [show 0 + b * 1 = b from by omega]; exact hcb)) (zM rfl rfl (zI (v := .int .i64 (((bstA fs kiln days).f : Nat) : Int)) rfl rfl rfl (fun w => zJs w (by decide) (by rw [show ((((cst fs kiln days) (planA fs kiln days) : Nat) : Int)).tdiv 100 = (((cst fs kiln days) (planA fs kiln days) / 100 : Nat) : Int) from (Int.ofNat_tdiv _ 100).symm, hb4]; exact zT _ om om)) (zM rfl rfl (zI (v := .bool false) rfl rfl rfl (fun w => by rw [qO, decide_eq_false (by simp)]) (jQ rfl rfl rfl (zF rfl rfl (zM rfl rfl (zF rfl rfl (zM rfl rfl (zF rfl rfl (zM rfl rfl (zF rfl rfl (zM rfl rfl (qE (j := b) rfl (show _ = some (Value.slice (some ⟨g8, 0, none⟩) L.length c8) from by rw [<- hg8]; rfl) (show _ = some (Value.int .i64 (b : Int)) from rfl) Try.underlying33 F.ti29 rfl om (zM rfl rfl (kN (v := .slice p.1 p.2.2.length p.2.1) rfl rfl F.one29 (fun a w ha => kU ha (InR.mem (A := A8)) hg8 (by rw [show 0 + b * 1 = b from by omega]; exact wK hp)) ?_)))))))))))))))))))))))))))))))))
   refine zM rfl rfl (jM (v := .bool true) (vs := [_, _]) rfl rfl F.ent21 (fun a w ha => ?_) ?_)
   ·have hlp : p.2.2.length = days.length := by have h := ((vF _ _ _).1 (List.mem_of_getElem? hb3)).1; rw [<- hpl] at h; unfold plist at h; simpa using h
    have h := zC2 (A := fA) (B := p.1) (ca := fc) (cb := p.2.1) (l := fr.reverse.map zmeta) (m := p.2.2.map zmeta) (by simp; omega) (by simp; omega) (fun x hx => by obtain ⟨y, hy, rfl⟩ := List.mem_map.1 hx; have := hfrl y (List.mem_reverse.1 hy); unfold zmeta; rw [zBs]; omega) (fun x hx => by
     obtain ⟨y, hy, rfl⟩ := List.mem_map.1 hx
     obtain ⟨z, h1, h2, _⟩ := (vV _ _ _).1 (((vF _ _ _).1 (List.mem_of_getElem? hb3)).2 y.2.2 (by rw [<- hpl]; exact List.mem_map_of_mem hy))
     unfold zmeta; rw [zBs, h1]; simp; omega) w (zYa ha (InR.mem (A := fA)) (fun m hm => (by repeat (first | exact List.mem_append_right _ (List.mem_map_of_mem hm) | apply List.Mem.tail)))) (zJk ha (p := p) (by repeat (first | exact List.mem_append_left _ (List.mem_append_left _ (List.mem_map_of_mem hpL)) | apply List.Mem.tail)) (fun m hm => (show mrow m ∈ _ from (by repeat (first | exact List.mem_append_left _ (List.mem_append_right _ (List.mem_map_of_mem (hLS p hpL m hm))) | apply List.Mem.tail))))).z
    have e : (fr.reverse.map zmeta).map (·.2.2) = (p.2.2.map zmeta).map (·.2.2) := by
     rw [show (fr.reverse.map zmeta).map (·.2.2) = (fr.reverse.map (·.2.2)).map zl from by rw [List.map_map, List.map_map]; rfl, hplan, <- hpl]
     unfold plist
     rw [List.map_map, List.map_map]; rfl
    rw [decide_eq_true e, List.length_map, List.length_map, List.length_reverse] at h
    exact h
   refine zM rfl rfl (qF rfl rfl (jQ rfl rfl rfl (zA (zC (kI rfl (zQ (zC (zD (zD (zB (zE rfl rfl (zA (zC (zS (qW (G := Nat) (fun k => k <= fs.length) (fun k => fs.length - k) (fun k => [(4, pt b4), (6, .int .i64 (((bstA fs kiln days).f : Nat) : Int)), (8, .slice A8 L.length c8), (9, .slice C9 L.length d9), (17, .int .i64 (k : Int))]) (fun _ => .row 3 1 C9 L.length d9 (ints ((allP fs.length days.length).map (cst fs kiln days))) :: .row 29 1 A8 L.length c8 (L.reverse.map pcell) :: .row 22 1 fA fr.length fc (fr.reverse.map mcell) :: .blk b4 (.cells [.slice A fs.length c, .int .i64 (kiln : Int), .slice D days.length dc].toArray 27 (0, 0)) :: .row 49 4 A fs.length c (fs.flatMap Flt.cells) :: .row 3 1 D days.length dc (ints days) :: ((L.map prow ++ S.map mrow) ++ fr.map mrow)) 0 (Nat.zero_le _) sbn pkk ?_)))))))))))))))
   intro k hk0
   (try dsimp only at hk0 ⊢)
   refine zD (zD (zB (zF rfl rfl (zL rfl rfl F.fi27_0 F.ti25 (zR rfl rfl F.one25 (jX rfl rfl Try.underlying25 (zI rfl rfl rfl jR ?_)))))))
   refine zA (zC (zN rfl (fun hc5 => ?_) (fun hc5 => ?_)))
   ·refine zQ (zC (zD (zS (zD (zB (zE rfl rfl (zA (zC (zS (qW (G := Nat) (fun d => d <= days.length) (fun d => days.length - d) (fun d => [(4, pt b4), (6, .int .i64 (((bstA fs kiln days).f : Nat) : Int)), (8, .slice A8 L.length c8), (9, .slice C9 L.length d9), (17, .int .i64 (k : Int)), (18, .int .i64 (d : Int))]) (fun _ => .row 3 1 C9 L.length d9 (ints ((allP fs.length days.length).map (cst fs kiln days))) :: .row 29 1 A8 L.length c8 (L.reverse.map pcell) :: .row 22 1 fA fr.length fc (fr.reverse.map mcell) :: .blk b4 (.cells [.slice A fs.length c, .int .i64 (kiln : Int), .slice D days.length dc].toArray 27 (0, 0)) :: .row 49 4 A fs.length c (fs.flatMap Flt.cells) :: .row 3 1 D days.length dc (ints days) :: ((L.map prow ++ S.map mrow) ++ fr.map mrow)) 0 (Nat.zero_le _) sbn pkk ?_))))))))))
    intro d hd0
    (try dsimp only at hd0 ⊢)
    refine zD (zD (zB (zF rfl rfl (zL rfl rfl F.fi27_2 F.ti22 (zR rfl rfl F.one22 (jX rfl rfl Try.underlying22 (zI rfl rfl rfl jR ?_)))))))
    refine zA (zC (zN rfl (fun hc6 => ?_) (fun hc6 => ?_)))
    ·refine zQ (zC (zD (zS (zD (zB (zE rfl rfl (zE rfl rfl (zA (zC (zD (zD (zB (zE rfl rfl (zA (zC (zS (qW (G := Nat) (fun i => i <= L.length) (fun i => L.length - i) (fun i => [(4, pt b4), (6, .int .i64 (((bstA fs kiln days).f : Nat) : Int)), (8, .slice A8 L.length c8), (9, .slice C9 L.length d9), (17, .int .i64 (k : Int)), (18, .int .i64 (d : Int)), (19, .bool (smB fs kiln days (bstA fs kiln days).f k d ((allP fs.length days.length).take i))), (20, .bool (evB fs kiln days (bstA fs kiln days).f k d ((allP fs.length days.length).take i))), (21, .int .i64 (i : Int))]) (fun _ => .row 3 1 C9 L.length d9 (ints ((allP fs.length days.length).map (cst fs kiln days))) :: .row 29 1 A8 L.length c8 (L.reverse.map pcell) :: .row 22 1 fA fr.length fc (fr.reverse.map mcell) :: .blk b4 (.cells [.slice A fs.length c, .int .i64 (kiln : Int), .slice D days.length dc].toArray 27 (0, 0)) :: .row 49 4 A fs.length c (fs.flatMap Flt.cells) :: .row 3 1 D days.length dc (ints days) :: ((L.map prow ++ S.map mrow) ++ fr.map mrow)) 0 (Nat.zero_le _) sbn pkk ?_)))))))))))))))))
     intro i hi0
     (try dsimp only at hi0 ⊢)
     refine zD (zD (zB (zF rfl rfl (zF rfl rfl (jX rfl rfl Try.underlying33 (zI rfl rfl rfl jR ?_))))))
     refine zA (zC (zN rfl (fun hc7 => ?_) (fun hc7 => ?_)))
     ·have hi : i < L.length := by omega
      have hk : k < fs.length := by omega
      have hd : d < days.length := by omega
      obtain ⟨q, hq⟩ : ∃ x, L.reverse[i]? = some x := ⟨_, List.getElem?_eq_getElem (by simp; omega)⟩
      have hqL : q ∈ L := List.mem_reverse.1 (List.mem_of_getElem? hq)
      have hql : (allP fs.length days.length)[i]? = some (plist q) := vN hL hq
      have hqm := List.mem_of_getElem? hql
      obtain ⟨hqa, hqb⟩ := (vF _ _ _).1 hqm
      have hqlen : q.2.2.length = days.length := by unfold plist at hqa; simpa using hqa
      obtain ⟨m, hm⟩ : ∃ x, q.2.2[d]? = some x := ⟨_, List.getElem?_eq_getElem om⟩
      have hmq := List.mem_of_getElem? hm
      have hmS := hLS q hqL m hmq
      have hmlen : m.2.2.length = fs.length := by
       obtain ⟨y, h1, h2, _⟩ := (vV _ _ _).1 (hqb m.2.2 (List.mem_map_of_mem hmq))
       rw [h1]; simpa using h2
      obtain ⟨x, hx⟩ : ∃ x, m.2.2[k]? = some x := ⟨_, List.getElem?_eq_getElem om⟩
      have hgx : ((plist q).getD d []).getD k 0 = x := by
       have e : (plist q).getD d [] = m.2.2 := by unfold plist; rw [List.getD_eq_getElem?_getD, List.getElem?_map, hm]; rfl
       rw [e, List.getD_eq_getElem?_getD, hx]; rfl
      have hcq := zL6 (kiln := kiln) hc.f3 hc.d4 hqm
      have hci : (ints ((allP fs.length days.length).map (cst fs kiln days)))[i]? = some (.int .i64 (((cst fs kiln days) (plist q) : Nat) : Int)) := zAz (by rw [List.getElem?_map, hql]; rfl)
      have hsm := zWl (fs := fs) (kiln := kiln) (days := days) (n := (bstA fs kiln days).f) (f := k) (d := d) hql
      have hev := zWj (fs := fs) (kiln := kiln) (days := days) (n := (bstA fs kiln days).f) (f := k) (d := d) hql
      rw [hgx, show decide (x = 3) = decide ((x : Int) = 3) from by rw [decide_eq_decide]; omega] at hsm hev
      refine zCt (fun a w ha => yX (ha.own _ (show prow q ∈ _ from (by repeat (first | exact List.mem_append_left _ (List.mem_append_left _ (List.mem_map_of_mem hqL)) | apply List.Mem.tail)))) om) ?_
      rintro ⟨gq, hgq⟩
      refine zCt (fun a w ha => zW0 ha (m := m) (by repeat (first | exact List.mem_append_left _ (List.mem_append_right _ (List.mem_map_of_mem hmS)) | apply List.Mem.tail)) om) ?_
      rintro ⟨gm, hgm⟩
      refine zQ (zC (zD (zS (zD (zB (zF rfl rfl (zF rfl rfl (qE (j := i) rfl (show _ = some (Value.slice (some ⟨g9, 0, none⟩) L.length d9) from by rw [<- hg9]; rfl) rfl Try.underlying22 F.ti3 rfl om (kN (v := .int .i64 (((cst fs kiln days) (plist q) : Nat) : Int)) rfl rfl F.one3 (fun a w ha => kU ha (InR.mem (A := C9)) hg9 (by rw [show 0 + i * 1 = i from by omega]; exact hci)) (zI (v := .int .i64 (((cst fs kiln days) (plist q) / 100 : Nat) : Int)) rfl rfl rfl (fun w => zJs w (by decide) (by rw [show ((((cst fs kiln days) (plist q) : Nat) : Int)).tdiv 100 = (((cst fs kiln days) (plist q) / 100 : Nat) : Int) from (Int.ofNat_tdiv _ 100).symm]; exact zT _ om om)) (zF rfl rfl (zI rfl rfl rfl jY ?_))))))))))))
      refine zA (zC (zN rfl (fun hc8 => ?_) (fun hc8 => ?_)))
      ·rw [decide_eq_true om, Bool.true_and] at hsm
       rw [decide_eq_true om, Bool.not_true, Bool.false_or] at hev
       refine xK (G := Unit) (fun _ => True) (fun _ => [(4, pt b4), (6, .int .i64 (((bstA fs kiln days).f : Nat) : Int)), (8, .slice A8 L.length c8), (9, .slice C9 L.length d9), (17, .int .i64 (k : Int)), (18, .int .i64 (d : Int)), (19, .bool (smB fs kiln days (bstA fs kiln days).f k d ((allP fs.length days.length).take i) || decide ((x : Int) = 3))), (20, .bool (evB fs kiln days (bstA fs kiln days).f k d ((allP fs.length days.length).take i) && decide ((x : Int) = 3))), (21, .int .i64 (i : Int))]) (fun _ => .row 3 1 C9 L.length d9 (ints ((allP fs.length days.length).map (cst fs kiln days))) :: .row 29 1 A8 L.length c8 (L.reverse.map pcell) :: .row 22 1 fA fr.length fc (fr.reverse.map mcell) :: .blk b4 (.cells [.slice A fs.length c, .int .i64 (kiln : Int), .slice D days.length dc].toArray 27 (0, 0)) :: .row 49 4 A fs.length c (fs.flatMap Flt.cells) :: .row 3 1 D days.length dc (ints days) :: ((L.map prow ++ S.map mrow) ++ fr.map mrow)) ?_ ?_
       ·refine kD [] F.follows 30 rfl [false, false, false, false, false, false, false, false, false, false, false, false, false, false, false, false, false, false, false, false, false, false, false, false, false, false, false, false, false, false] rfl (zG 0 rfl rfl rfl (zP rfl) (zG 1 rfl rfl rfl (zP rfl) ?_))
        refine wN (t := 164) rfl (fun hg164 => ?_) (fun hg164 => ?_)
        ·refine jC 2 rfl rfl rfl rfl rfl kr kr kr sbl rfl (jC 3 rfl rfl rfl rfl rfl kr kr kr sbl rfl (jC 4 rfl rfl rfl rfl rfl kr kr kr sbl rfl (jC 5 rfl rfl rfl rfl rfl kr kr kr sbl rfl (jC 6 rfl rfl rfl rfl rfl kr kr kr sbl rfl (jC 7 rfl rfl rfl rfl rfl kr kr kr sbl rfl (jC 8 rfl rfl rfl rfl rfl kr kr kr sbl rfl (jC 9 rfl rfl rfl rfl rfl kr kr kr sbl rfl (jC 10 rfl rfl rfl rfl rfl kr kr kr sbl rfl (jC 11 rfl rfl rfl rfl rfl kr kr kr sbl rfl (jC 12 rfl rfl rfl rfl rfl kr kr kr sbl rfl (zG 13 rfl rfl rfl (vB rfl rfl) (zG 14 rfl rfl rfl (zP rfl) (zG 15 rfl rfl rfl (zP rfl) ?_)))))))))))))
         refine wN (t := 178) rfl (fun hg178 => ?_) (fun hg178 => ?_)
         ·refine zV 16 rfl rfl rfl rfl rfl kr kr kr sbl (zP rfl) rfl (zV 17 rfl rfl rfl rfl rfl kr kr kr sbl (zP rfl) rfl (zV 18 rfl rfl rfl rfl rfl kr kr kr sbl (kM (j := i) (show _ = some (Value.slice (some ⟨g8, 0, none⟩) L.length c8) from by rw [<- hg8]; rfl) rfl Try.underlying33 F.ti29 rfl hi) rfl (zV 19 rfl rfl rfl rfl rfl kr kr kr sbl (jP (v := .slice q.1 q.2.2.length q.2.1) rfl F.one29 (fun a w ha => kU ha (InR.mem (A := A8)) hg8 (by rw [show 0 + i * 1 = i from by omega]; exact wK hq))) rfl (zV 20 rfl rfl rfl rfl rfl kr kr kr sbl (zP rfl) rfl (zV 21 rfl rfl rfl rfl rfl kr kr kr sbl (kM (j := d) (show _ = some (Value.slice (some ⟨gq, 0, none⟩) q.2.2.length q.2.1) from by rw [<- hgq]; rfl) rfl Try.underlying29 F.ti22 rfl om) rfl (zV 22 rfl rfl rfl rfl rfl kr kr kr sbl (jP (v := .slice m.1 m.2.2.length m.2.1) rfl F.one22 (fun a w ha => kU ha (show prow q ∈ _ from (by repeat (first | exact List.mem_append_left _ (List.mem_append_left _ (List.mem_map_of_mem hqL)) | apply List.Mem.tail))) hgq (by rw [show 0 + d * 1 = d from by omega]; exact (by rw [List.getElem?_map, hm]; rfl)))) rfl ?_))))))
          exact zV 23 rfl rfl rfl rfl rfl kr kr kr sbl (zP rfl) rfl (zV 24 rfl rfl rfl rfl rfl kr kr kr sbl (kM (j := k) (show _ = some (Value.slice (some ⟨gm, 0, none⟩) m.2.2.length m.2.1) from by rw [<- hgm]; rfl) rfl Try.underlying22 F.ti3 rfl om) rfl (zV 25 rfl rfl rfl rfl rfl kr kr kr sbl (jP (v := .int .i64 (x : Int)) rfl F.one3 (fun a w ha => kU ha (show mrow m ∈ _ from (by repeat (first | exact List.mem_append_left _ (List.mem_append_right _ (List.mem_map_of_mem hmS)) | apply List.Mem.tail))) hgm (by rw [show 0 + k * 1 = k from by omega]; exact zAz hx))) rfl (zV 26 rfl rfl rfl rfl rfl kr kr kr sbl (kS rfl rfl jY) rfl (zG 27 rfl rfl rfl (vB rfl rfl) (zG 28 rfl rfl rfl (jZ rfl) (zG 29 rfl rfl rfl (jZ rfl) (adn (jS () trivial (by repeat (first | exact Sub.nil _ | refine Sub.cons rfl ?_ | refine Sub.cons (by first | (rw [hg164]; rfl) | (rw [hg178]; rfl)) ?_)) pkk))))))))
         ·refine jC 16 rfl rfl rfl rfl rfl kr kr kr sbl rfl (jC 17 rfl rfl rfl rfl rfl kr kr kr sbl rfl (jC 18 rfl rfl rfl rfl rfl kr kr kr sbl rfl (jC 19 rfl rfl rfl rfl rfl kr kr kr sbl rfl (jC 20 rfl rfl rfl rfl rfl kr kr kr sbl rfl (jC 21 rfl rfl rfl rfl rfl kr kr kr sbl rfl (jC 22 rfl rfl rfl rfl rfl kr kr kr sbl rfl (jC 23 rfl rfl rfl rfl rfl kr kr kr sbl rfl (jC 24 rfl rfl rfl rfl rfl kr kr kr sbl rfl (jC 25 rfl rfl rfl rfl rfl kr kr kr sbl rfl (jC 26 rfl rfl rfl rfl rfl kr kr kr sbl rfl (zG 27 rfl rfl rfl (vD rfl rfl) (zG 28 rfl rfl rfl (jZ rfl) (zG 29 rfl rfl rfl (jZ rfl) (adn ?_))))))))))))))
          exact jS () trivial (by repeat (first | exact Sub.nil _ | refine Sub.cons rfl ?_ | refine Sub.cons (by first | (rw [hg164]; rfl) | (rw [hg178]; rfl)) ?_)) pkk
        ·refine zV 2 rfl rfl rfl rfl rfl kr kr kr sbl (zP rfl) rfl (zV 3 rfl rfl rfl rfl rfl kr kr kr sbl (zP rfl) rfl (zV 4 rfl rfl rfl rfl rfl kr kr kr sbl (kM (j := i) (show _ = some (Value.slice (some ⟨g8, 0, none⟩) L.length c8) from by rw [<- hg8]; rfl) rfl Try.underlying33 F.ti29 rfl hi) rfl (zV 5 rfl rfl rfl rfl rfl kr kr kr sbl (jP (v := .slice q.1 q.2.2.length q.2.1) rfl F.one29 (fun a w ha => kU ha (InR.mem (A := A8)) hg8 (by rw [show 0 + i * 1 = i from by omega]; exact wK hq))) rfl (zV 6 rfl rfl rfl rfl rfl kr kr kr sbl (zP rfl) rfl (zV 7 rfl rfl rfl rfl rfl kr kr kr sbl (kM (j := d) (show _ = some (Value.slice (some ⟨gq, 0, none⟩) q.2.2.length q.2.1) from by rw [<- hgq]; rfl) rfl Try.underlying29 F.ti22 rfl om) rfl (zV 8 rfl rfl rfl rfl rfl kr kr kr sbl (jP (v := .slice m.1 m.2.2.length m.2.1) rfl F.one22 (fun a w ha => kU ha (show prow q ∈ _ from (by repeat (first | exact List.mem_append_left _ (List.mem_append_left _ (List.mem_map_of_mem hqL)) | apply List.Mem.tail))) hgq (by rw [show 0 + d * 1 = d from by omega]; exact (by rw [List.getElem?_map, hm]; rfl)))) rfl ?_))))))
         refine zV 9 rfl rfl rfl rfl rfl kr kr kr sbl (zP rfl) rfl (zV 10 rfl rfl rfl rfl rfl kr kr kr sbl (kM (j := k) (show _ = some (Value.slice (some ⟨gm, 0, none⟩) m.2.2.length m.2.1) from by rw [<- hgm]; rfl) rfl Try.underlying22 F.ti3 rfl om) rfl (zV 11 rfl rfl rfl rfl rfl kr kr kr sbl (jP (v := .int .i64 (x : Int)) rfl F.one3 (fun a w ha => kU ha (show mrow m ∈ _ from (by repeat (first | exact List.mem_append_left _ (List.mem_append_right _ (List.mem_map_of_mem hmS)) | apply List.Mem.tail))) hgm (by rw [show 0 + k * 1 = k from by omega]; exact zAz hx))) rfl (zV 12 rfl rfl rfl rfl rfl kr kr kr sbl (kS rfl rfl jY) rfl (zG 13 rfl rfl rfl (vD rfl rfl) (zG 14 rfl rfl rfl (zP rfl) (zG 15 rfl rfl rfl (zP rfl) ?_))))))
         refine wN (t := 178) rfl (fun hg178 => ?_) (fun hg178 => ?_)
         ·refine zV 16 rfl rfl rfl rfl rfl kr kr kr sbl (zP rfl) rfl (zV 17 rfl rfl rfl rfl rfl kr kr kr sbl (zP rfl) rfl (zV 18 rfl rfl rfl rfl rfl kr kr kr sbl (kM (j := i) (show _ = some (Value.slice (some ⟨g8, 0, none⟩) L.length c8) from by rw [<- hg8]; rfl) rfl Try.underlying33 F.ti29 rfl hi) rfl (zV 19 rfl rfl rfl rfl rfl kr kr kr sbl (jP (v := .slice q.1 q.2.2.length q.2.1) rfl F.one29 (fun a w ha => kU ha (InR.mem (A := A8)) hg8 (by rw [show 0 + i * 1 = i from by omega]; exact wK hq))) rfl (zV 20 rfl rfl rfl rfl rfl kr kr kr sbl (zP rfl) rfl (zV 21 rfl rfl rfl rfl rfl kr kr kr sbl (kM (j := d) (show _ = some (Value.slice (some ⟨gq, 0, none⟩) q.2.2.length q.2.1) from by rw [<- hgq]; rfl) rfl Try.underlying29 F.ti22 rfl om) rfl (zV 22 rfl rfl rfl rfl rfl kr kr kr sbl (jP (v := .slice m.1 m.2.2.length m.2.1) rfl F.one22 (fun a w ha => kU ha (show prow q ∈ _ from (by repeat (first | exact List.mem_append_left _ (List.mem_append_left _ (List.mem_map_of_mem hqL)) | apply List.Mem.tail))) hgq (by rw [show 0 + d * 1 = d from by omega]; exact (by rw [List.getElem?_map, hm]; rfl)))) rfl ?_))))))
          exact zV 23 rfl rfl rfl rfl rfl kr kr kr sbl (zP rfl) rfl (zV 24 rfl rfl rfl rfl rfl kr kr kr sbl (kM (j := k) (show _ = some (Value.slice (some ⟨gm, 0, none⟩) m.2.2.length m.2.1) from by rw [<- hgm]; rfl) rfl Try.underlying22 F.ti3 rfl om) rfl (zV 25 rfl rfl rfl rfl rfl kr kr kr sbl (jP (v := .int .i64 (x : Int)) rfl F.one3 (fun a w ha => kU ha (show mrow m ∈ _ from (by repeat (first | exact List.mem_append_left _ (List.mem_append_right _ (List.mem_map_of_mem hmS)) | apply List.Mem.tail))) hgm (by rw [show 0 + k * 1 = k from by omega]; exact zAz hx))) rfl (zV 26 rfl rfl rfl rfl rfl kr kr kr sbl (kS rfl rfl jY) rfl (zG 27 rfl rfl rfl (vB rfl rfl) (zG 28 rfl rfl rfl (jZ rfl) (zG 29 rfl rfl rfl (jZ rfl) (adn (jS () trivial (by repeat (first | exact Sub.nil _ | refine Sub.cons rfl ?_ | refine Sub.cons (by first | (rw [hg164]; rfl) | (rw [hg178]; rfl)) ?_)) pkk))))))))
         ·refine jC 16 rfl rfl rfl rfl rfl kr kr kr sbl rfl (jC 17 rfl rfl rfl rfl rfl kr kr kr sbl rfl (jC 18 rfl rfl rfl rfl rfl kr kr kr sbl rfl (jC 19 rfl rfl rfl rfl rfl kr kr kr sbl rfl (jC 20 rfl rfl rfl rfl rfl kr kr kr sbl rfl (jC 21 rfl rfl rfl rfl rfl kr kr kr sbl rfl (jC 22 rfl rfl rfl rfl rfl kr kr kr sbl rfl (jC 23 rfl rfl rfl rfl rfl kr kr kr sbl rfl (jC 24 rfl rfl rfl rfl rfl kr kr kr sbl rfl (jC 25 rfl rfl rfl rfl rfl kr kr kr sbl rfl (jC 26 rfl rfl rfl rfl rfl kr kr kr sbl rfl (zG 27 rfl rfl rfl (vD rfl rfl) (zG 28 rfl rfl rfl (jZ rfl) (zG 29 rfl rfl rfl (jZ rfl) (adn ?_))))))))))))))
          exact jS () trivial (by repeat (first | exact Sub.nil _ | refine Sub.cons rfl ?_ | refine Sub.cons (by first | (rw [hg164]; rfl) | (rw [hg178]; rfl)) ?_)) pkk
       ·rintro - -
        (try dsimp only)
        refine zJ (zC (zB (zF rfl rfl (zI rfl rfl rfl (fun w => jK w (zT _ om om)) (zE rfl rfl (zA (kP (i + 1) om tdo (by (try dsimp only); rw [hsm, hev]; repeat (first | exact Sub.nil _ | refine Sub.cons rfl ?_)) pkk)))))))
      ·rw [decide_eq_false om, Bool.false_and, Bool.or_false] at hsm
       rw [decide_eq_false om, Bool.not_false, Bool.true_or, Bool.and_true] at hev
       refine zQ (zJ (zC (zB (zF rfl rfl (zI rfl rfl rfl (fun w => jK w (zT _ om om)) (zE rfl rfl (zA (kP (i + 1) om tdo (by (try dsimp only); rw [hsm, hev]; repeat (first | exact Sub.nil _ | refine Sub.cons rfl ?_)) pkk))))))))
     ·obtain rfl : i = L.length := by omega
      rw [List.take_of_length_le om]
      refine jU (zO (zO (jF (zC (zD (zB (zE rfl rfl (zA (zC (zD (zD (zB (zF rfl rfl (zA (zC (qD rfl (fun hc9 => ?_) (fun hc9 => ?_)))))))))))))))))
      ·refine zB (zE rfl rfl (zA (zC (zD (zB (jE rfl rfl F.agg27 F.ti27 (zF rfl rfl (zF rfl rfl (jM (v := .tuple #[.int .i64 1, .int .i64 0]) (vs := [_, _, _]) rfl rfl F.ent19 (fun a w ha => (zBx (fc := c) (dc := dc) (f := k) (day := d) hc om om w (zA8 (A := A) ha rfl) (zAy (A := D) ha rfl)).mono (fun e w' h => ⟨h.1.trans (by rw [(zHl (fs := fs) (kiln := kiln) (days := days) (f := k) (d := d) hc.f3 hc.d4 om his), if_pos hc9]; rfl), h.2⟩)) (zF rfl rfl (zW rfl rfl rfl (zW rfl rfl rfl (zE rfl rfl (zE rfl rfl (zA (zC (zD (zB (zF rfl rfl (zI (v := .bool false) rfl rfl rfl (fun w => by rw [qO, decide_eq_false (by simp)]) (zF rfl rfl (zM rfl rfl (zF rfl rfl (zM rfl rfl (zF rfl rfl (zM rfl rfl (zI (v := .bool false) rfl rfl rfl (fun w => by rw [qO, decide_eq_false (by simp)]) (jQ rfl rfl rfl (zA (zC (kI rfl (zQ (zJ (zC (zB (zF rfl rfl (zI rfl rfl rfl (fun w => jK w (zT _ om om)) (zE rfl rfl (zA (kP (d + 1) om tdo sbn pkk))))))))))))))))))))))))))))))))))))))))
      ·refine zD (zB (zF rfl rfl (qF rfl rfl (zA (zC (qD rfl (fun hc10 => ?_) (fun hc10 => ?_)))))))
       ·refine zB (zE rfl rfl (zA (zC (zD (zB (jE rfl rfl F.agg27 F.ti27 (zF rfl rfl (zF rfl rfl (jM (v := .tuple #[.int .i64 2, .int .i64 0]) (vs := [_, _, _]) rfl rfl F.ent19 (fun a w ha => (zBx (fc := c) (dc := dc) (f := k) (day := d) hc om om w (zA8 (A := A) ha rfl) (zAy (A := D) ha rfl)).mono (fun e w' h => ⟨h.1.trans (by rw [(zHl (fs := fs) (kiln := kiln) (days := days) (f := k) (d := d) hc.f3 hc.d4 om his), if_neg (by rw [hc9]; simp), if_neg (by simpa using hc10)]; rfl), h.2⟩)) (zF rfl rfl (zW rfl rfl rfl (zW rfl rfl rfl (zE rfl rfl (zE rfl rfl (zA (zC (zD (zB (zF rfl rfl (zI (v := .bool false) rfl rfl rfl (fun w => by rw [qO, decide_eq_false (by simp)]) (zF rfl rfl (zM rfl rfl (zF rfl rfl (zM rfl rfl (zF rfl rfl (zM rfl rfl (zI (v := .bool false) rfl rfl rfl (fun w => by rw [qO, decide_eq_false (by simp)]) (jQ rfl rfl rfl (zA (zC (kI rfl (zQ (zJ (zC (zB (zF rfl rfl (zI rfl rfl rfl (fun w => jK w (zT _ om om)) (zE rfl rfl (zA (kP (d + 1) om tdo sbn pkk))))))))))))))))))))))))))))))))))))))))
       ·refine zQ (zC (zD (zB (jE rfl rfl F.agg27 F.ti27 (zF rfl rfl (zF rfl rfl (jM (v := .tuple #[.int .i64 3, .int .i64 0]) (vs := [_, _, _]) rfl rfl F.ent19 (fun a w ha => (zBx (fc := c) (dc := dc) (f := k) (day := d) hc om om w (zA8 (A := A) ha rfl) (zAy (A := D) ha rfl)).mono (fun e w' h => ⟨h.1.trans (by rw [(zHl (fs := fs) (kiln := kiln) (days := days) (f := k) (d := d) hc.f3 hc.d4 om his), if_neg (by rw [hc9]; simp), if_pos (by simpa using hc10)]; rfl), h.2⟩)) (zF rfl rfl (zW rfl rfl rfl (zW rfl rfl rfl (zE rfl rfl (zE rfl rfl (zA (zC (zD (zB (zF rfl rfl (zI (v := .bool false) rfl rfl rfl (fun w => by rw [qO, decide_eq_false (by simp)]) (zF rfl rfl (zM rfl rfl (zF rfl rfl (zM rfl rfl (zF rfl rfl (zM rfl rfl (zI (v := .bool false) rfl rfl rfl (fun w => by rw [qO, decide_eq_false (by simp)]) (jQ rfl rfl rfl (zA (zC (kI rfl (zQ (zJ (zC (zB (zF rfl rfl (zI rfl rfl rfl (fun w => jK w (zT _ om om)) (zE rfl rfl (zA (kP (d + 1) om tdo sbn pkk))))))))))))))))))))))))))))))))))))))
    ·refine jU (zO (zO (jF (zJ (zC (zB (zF rfl rfl (zI rfl rfl rfl (fun w => jK w (zT _ om om)) (zE rfl rfl (zA (kP (k + 1) om tdo sbn pkk)))))))))))
   ·exact jU (zO (zO (jF (zC (zD (zB (jM (v := .bool true) (vs := []) rfl rfl F.ent20 (fun a w ha => zKs w (hR.later ha.below)) (zE rfl rfl (zA (zC (zY (jJ rfl (fun a w ha => jO rfl rfl ha) (fun a w ha => ⟨rfl, ha.grown nsl⟩)))))))))))))

end Go.Proofs.Yteppiphdbondeaa.N
namespace Go.Proofs.Yteppiphdbondeaa.N
open Go Go.RowKit Go.Conc
set_option linter.unusedSectionVars false

variable {low : Nat} {msg : Nat -> Value} {tW : TypeId}
def seenZ (W : World) : World := { seenW W with output := gout [0] }
theorem zS0 (W : World) : Hid (Viewed W) (fun _ => False) W (seenZ W) := by
 have h := zRv W
 exact ⟨h.1, h.2, h.3, h.4, h.5, h.6, h.7, h.8, h.9, h.10⟩
theorem zP0 {W : World} {p : Addr} {u : Value} (h : W.cell? p = some u) : (seenZ W).cell? p = some u := zPx h
section
variable {P : Program} {W : World} {f : FuncId} {args : Array Value} {Post : Value -> World -> Prop}
theorem zOb {F : Nat -> Prop} {w w' v' : World} (hk : Kept F (fun _ => False) w w') (hv : Hid F (fun _ => False) w' v') (hb : Bas W (Viewed W) (fun i => i = 0) (fun _ => F) w) (hv0 : Below (seenZ W).heap.size (seenZ W) v') : Below W.heap.size W w' := by
 refine ⟨hk.os.trans hb.os, hk.tape.trans hb.tape, hk.output.trans hb.output, Nat.le_trans hb.size hk.size, fun b hlt => ?_⟩
 by_cases hF : F b
 ·rw [hk.block b (Nat.lt_of_lt_of_le hlt hb.size) (.inl hF)]
  exact (hb.held b (hb.new b hlt hF)).2.1
 ·rw [<- hv.same b hF (fun x => x), hv0.block b (by simpa [seenZ, seenW] using hlt)]
  show (seenW W).heap[b]? = _
  rw [zAu]
  cases h : W.heap[b]? with
  | none => rfl
  | some o =>
   cases o with
   | view p t => exact absurd ((hb.held b ⟨p, t, h⟩).2.2 0 rfl) hF
   | _ => rfl
def sig0 : Cst := ⟨0, 0, 0, [], 0, false, false, false, 0, 0, .rest, [], [], fun _ => none, []⟩
theorem zP9 : sig0.blank := ⟨fun _ => rfl, rfl, rfl, rfl, rfl, rfl, rfl, rfl, rfl⟩
theorem zWq (low : Nat) : Cok low sig0 := by
 refine ⟨List.nodup_nil, rfl, fun j => ?_, fun j p h => (by cases h), fun b hb => (by cases hb), fun h => (by cases h), fun h => (by cases h), fun h => (by cases h), by decide, rfl, .nil, zP9⟩
 constructor
 ·intro h; cases h
 ·rintro ⟨p, h⟩; cases h
theorem zW2 {σ : Cst} (hok : Cok low σ) (h : σ.gh 0 = some [0]) : Alone (Cp low tW msg) σ ∧ σ.lent = [] ∧ ∀ c, ¬ (Cst.ts σ).Ca c := by
 rw [zAn] at h
 have hp := hok.phase
 cases hm : σ.mn <;> rw [hm] at h <;> simp [Mn.enc] at h
 unfold Cst.phase at hp
 rw [hm] at hp
 obtain ⟨h1, h2, h3, h4, h5, h6, h7, h8, h9⟩ := hp
 refine ⟨?_, h9, fun c hc => ?_⟩
 ·refine ⟨fun j hj => zAg hj h1, ?_⟩
  show (Cst.ts σ).D 0 = 0
  simp [Cst.ts, hm, Mn.deaf]
 ·rcases hc with ⟨h, _⟩ | ⟨h, _⟩ <;> omega
theorem zJw (hK : low = W.heap.size) (noInit : P.inits.idxOf? f = none)
  (h : @Calls P (zSys P (Cp low tW msg)) f args (seenZ W) fun e v' => ∃ x, e = .returned x ∧ Below (seenZ W).heap.size (seenZ W) v' ∧ ∀ W', Below W.heap.size W W' -> Post x W') :
  ∃ N last o w' t', runNT P (N + 1) (solo (G (Frame.enter P f args .normal) []) W) #[] = (.ended o w', t') ∧ runN P N (solo (G (Frame.enter P f args .normal) []) W) = .next last ∧ step P last = .ended o w' ∧ Go.Conc.Good P Post last o w' t' := by
 refine zY2 (K := Cp low tW msg) (σ := sig0) (γ := [0]) zW6 hK (zS0 W) rfl (zWq low) rfl (fun j hj => zAi hj rfl) (fun b hb => (by cases hb)) rfl rfl (@Gs.mono P (zSys P (Cp low tW msg)) _ _ _ _ (h []) fun g v' hs => ?_)
 obtain ⟨e, fr, v₀, ⟨x, rfl, hb, hp⟩, hr, rfl, hfn, hm, hd, hkd, fn, hf, ht, hres⟩ := hs
 have hb' : Below (seenZ W).heap.size (seenZ W) v' := hb.trans (hr.mono hb.size)
 refine ⟨rfl, ⟨[0], hb'.output, fun σ hok hg => zW2 hok hg⟩, fun F w hv hbas => ?_⟩
 obtain ⟨w', h1, h2, h3, h4, h5⟩ := ht.ok (hres v' (Rl.refl v')) hv
 have hno : P.inits.idxOf? fr.fn = none := by rw [hfn]; exact noInit
 refine ⟨x, w', seen P fr.fn ((results fn fr.tmps).events P v' #[]), ?_, ?_, hp w' (zOb h4 h3 hbas hb')⟩
 ·rw [<- h2]
  simp [G, stepG, unwind, doReturn, hm, hd, hkd, hf, h1, hno, GStep.after]
 ·rw [<- hv.size]
  exact fun e he => h5 e (Go.Conc.mem_seen he)
end
theorem zAw {H : Type} {enc : TypeId × Value -> H} {a : Assume} {C : Checked} {os : Os} {f : FuncId} {fn : Func} {s : ChangeSpec} {conds : List PathCond} {apart fresh handsOn again : Bool} (tW : TypeId) (msg : Nat -> Value)
  (own : ownKnob C.prog.godebug = none) (started : os.Started) (noInit : C.prog.inits.idxOf? f = none) (hfn : C.prog.funcs[f]? = some fn)
  (witness : ∃ (w : World) (tape : Tape) (i : Input), w.os = os ∧ (w.forCall tape i).Shaped C.prog ∧ i.vars = [] ∧ Input.okWide C.prog (w.forCall tape i) .any w.heap.size f i ∧
   s.pre6 enc C.prog fn conds apart (w.forCall tape i).memory i.args ∧ a.holds C.prog (lone (Frame.enter C.prog f i.args .normal) [] (w.forCall tape i)))
  (contract : ∀ (W : World) (base : Nat) (args : Array Value) (ds gs : List (DataW H)) (before : List MemPlace),
   (∀ (j : Nat) t v, fn.params[j]? = some t -> args[j]? = some v -> Value.okWide C.prog W .any base t v) ->
   DataW.Whole enc C.prog fn.params.toList s.vars apart W args.toList ds gs before ->
   conds.all (PathCond.test C.prog ⟨fn.params.toList, ds, s.plain.varTypes C.prog, gs⟩) = true ->
   (DataW.weightsEach C.prog (fn.params.toList ++ s.plain.varTypes C.prog) (ds ++ gs)).all (· <= reachBytes) = true ->
   a.holds C.prog (lone (Frame.enter C.prog f args .normal) [] W) ->
   @Calls C.prog (zSys C.prog (Cp W.heap.size tW msg)) f args (seenZ W) fun e v' => ∃ x, e = .returned x ∧ Below (seenZ W).heap.size (seenZ W) v' ∧ ∀ W', Below W.heap.size W W' -> s.post enc C.prog fn apart fresh handsOn again W args x W') :
  ReturnsInLeavingWide a C os f .any (s.pre6 enc C.prog fn conds apart) (s.post enc C.prog fn apart fresh handsOn again) := by
 refine returnsInLeavingWide_of_good own started witness ?_
 intro w tape i _ _ _ hok hpre hholds
 obtain ⟨_, _, _, fn', hfn', _, _, _, _, hval⟩ := hok
 have e : fn' = fn := Option.some.inj (hfn'.symm.trans hfn)
 subst e
 obtain ⟨⟨ds, gs, before, hw, hc⟩, hz⟩ := hpre
 have hw' := DataW.Whole.of_heap (w' := w.forCall tape i) (by rfl) hw
 have hcalls := contract (w.forCall tape i) w.heap.size i.args ds gs before hval hw' hc (hz.weights hw) hholds
 obtain ⟨M, last, o, w', t', h1, h2, h3, h4⟩ := zJw rfl noInit hcalls
 exact ⟨M, last, o, w', t', h1, h2, h3, h4.mono fun v hp => ChangeSpec.post_blind hp⟩
end Go.Proofs.Yteppiphdbondeaa.N
/- What rows of laws about char share: the program's closed facts, and the law from its call in company. -/
namespace Go.Proofs.Yteppiphdbondeaa.N
open Go Go.ChangeShapes Go.WideShapes Go.ChangeAt Go.RowKit Go.Proofs Go.Proofs.Yteppiphdbondeaa Go.Proofs.Yteppiphdbondeaa.Rows
set_option linter.unusedSectionVars false
theorem own_ : ownKnob Try.prog.godebug = Option.none := by kernel_rfl
theorem zMs : laidOutB Try.prog = true := by kernel_rfl
theorem zVh : Try.prog.cellsOf 3 = 1 := by kernel_rfl
theorem zR5 : Try.prog.underlying 22 = some (.slice 3) := by kernel_rfl
theorem zZr : Try.prog.underlying 3 = some (.int .i64) := by kernel_rfl
theorem zZy : Try.prog.underlying 4 = some .bool := by kernel_rfl
theorem zVz : Try.prog.readableRec 22 = true := by kernel_rfl
set_option maxRecDepth 100000 in
theorem zZm : 22 < Try.prog.types.size := of_decide_eq_true (by kernel_rfl)
theorem zUf {α : Type} {cells : α -> List Value} {size : Nat} {W : World} {A : Option Addr} {l : List α} (h : RdL cells size W A l) : RdL cells size (seenZ W) A l := fun hl => by
 obtain ⟨b, o, h1, h2, h3⟩ := h hl
 exact ⟨b, o, h1, by simpa [seenZ, seenW] using h2, fun k x hk j u hu => zP0 (h3 k x hk j u hu)⟩
abbrev ZS (W : World) : Sys := zSys Try.prog (Cp W.heap.size 131 msgM)
set_option maxRecDepth 100000 in
theorem zJu {H : Type} {enc : TypeId × Value -> H} {f : FuncId} {fn : Func} {s : ChangeSpec} (hp : fn.params = #[22]) (hr : fn.resultTypes = #[4]) (hs : s.vars = []) (hfn : ∀ d : DataW H, s.fn H [d] = { results := [.lit (.bool true)], args := [d] })
  (W : World) (law : ∀ (nA : Option Addr) (nc : Nat) (nums : List Int), RdL icell 1 (seenZ W) nA nums -> @Calls Try.prog (ZS W) f #[.slice nA nums.length nc] (seenZ W) fun e w' => e = .returned (.bool true) ∧ Grew (seenZ W) w' [])
  (base : Nat) (args : Array Value) (ds gs : List (DataW H)) (before : List MemPlace)
  (hval : ∀ (j : Nat) t v, fn.params[j]? = some t -> args[j]? = some v -> Value.okWide Try.prog W .any base t v)
  (hW : DataW.Whole enc Try.prog fn.params.toList s.vars false W args.toList ds gs before) :
  @Calls Try.prog (ZS W) f args (seenZ W) fun e v' => ∃ x, e = .returned x ∧ Below (seenZ W).heap.size (seenZ W) v' ∧ ∀ W', Below W.heap.size W W' -> s.post enc Try.prog fn false true false false W args x W' := by
 have hW' := hW
 obtain ⟨p, q, hA, hV, rfl, _, _⟩ := hW
 rw [hs] at hV
 rw [hp] at hA hval
 obtain ⟨v0, d0, rfl, rfl, h0⟩ := trodAll_one hA
 obtain ⟨rfl, rfl⟩ := trodVars_none hV
 obtain ⟨a0, len, cap, rfl⟩ := okWide_slice zR5 (hval 0 22 v0 rfl rfl)
 have h0k := h0
 obtain ⟨fuel, hf⟩ := h0
 clear hA
 simp only [List.append_nil] at hW'
 have hlt : ∀ x ∈ p, x.block < W.heap.size := fun x hx => by simpa using hW'.lt x hx
 have hargs : ∀ (W' : World), Below W.heap.size W W' -> DataW.Trod enc Try.prog W' 0 (fun b => decide (b < W.heap.size)) true 22 (.slice a0 len cap) d0 p :=
  fun W' hn => Below.trod zMs zVz zZm h0k hn hlt
 have close : ∀ nums : List Int, nums.length = len -> RdL icell 1 W a0 nums -> @Calls Try.prog (ZS W) f #[.slice a0 len cap] (seenZ W) fun e v' => ∃ x, e = .returned x ∧ Below (seenZ W).heap.size (seenZ W) v' ∧ ∀ W', Below W.heap.size W W' -> s.post enc Try.prog fn false true false false W #[.slice a0 len cap] x W' := by
  intro nums hn hR
  have hl := law a0 cap nums (zUf hR)
  rw [hn] at hl
  refine @Calls.mono _ (ZS W) _ _ _ _ _ hl fun e v' ⟨he, hg⟩ => ⟨_, he, hg.1, fun W' hb => ?_⟩
  refine ⟨_, _, _, [], p, [], hW', ?_, ?_, ?_, hb.frame _, fun h => Bool.noConfusion h⟩
  ·rw [show s.fn H ([d0] ++ []) = _ from hfn d0, hr]; exact trodAll_mk1 (shut_bool zZy true)
  ·rw [show s.fn H ([d0] ++ []) = _ from hfn d0, hp]; exact trodAll_mk1 (hargs W' hb)
  ·rw [show s.fn H ([d0] ++ []) = _ from hfn d0, hs]; rfl
 rcases open_ints zR5 zZr zVh hf with ⟨hcs, hx⟩ | ⟨a, len', cap', zs, hcs, _, hl, hm, hz, hx, hcell, hwz⟩
 ·simp [Value.cells] at hcs
  obtain ⟨rfl, rfl, rfl⟩ := hcs
  exact close [] rfl (fun h => absurd h (by simp))
 ·simp [Value.cells] at hcs
  obtain ⟨rfl, rfl, rfl⟩ := hcs
  simp only [Prod.mk.injEq] at hx
  obtain ⟨rfl, rfl⟩ := hx
  simp only [if_true] at hz
  obtain ⟨b, off, spot⟩ := a
  refine close (zs.take len) (by rw [List.length_take]; omega) (fun hpos => ?_)
  rw [List.length_take] at hpos
  have hspot : spot = Option.none := by simpa [Addr.add] using World.cell?_spot (hcell 0 om)
  subst hspot
  refine ⟨b, off, rfl, hlt (.cell b off) (MemPlace.mem_row.2 ⟨0, by omega, by simp⟩), fun k x hk j u hu => ?_⟩
  rw [List.getElem?_take] at hk
  split at hk
  ·rename_i hkl
   cases j with
   | zero =>
    simp [icell] at hu
    subst hu
    have := hcell k om
    rw [List.getD_eq_getElem?_getD, hk] at this
    rw [Nat.mul_one, Nat.add_zero]
    rw [add_plain] at this
    exact this
   | succ j => simp [icell] at hu
  ·cases hk
def orderN : List Nat := [104, 97, 114, 110, 101, 115, 115, 32, 55, 101, 48, 57, 54, 53, 99, 53, 56, 54, 50, 48, 53, 101, 50, 57, 53, 97, 99, 57, 53, 56, 98, 100, 52, 101, 101, 55, 102, 54, 99, 102, 55, 100, 53, 102, 53, 50, 97, 49, 57, 102, 99, 99, 102, 52, 99, 49, 50, 48, 99, 54, 56, 48, 48, 100, 102, 98, 98, 53, 99, 54, 49, 48, 32, 99, 117, 116, 32, 97, 116, 32, 109, 117, 115, 99, 111, 118, 97, 100, 111, 47, 109, 117, 115, 99, 111, 118, 97, 100, 111, 108, 97, 119, 48, 52, 46, 67, 104, 97, 114, 70, 101, 119, 101, 115, 116, 32, 109, 117, 115, 99, 111, 118, 97, 100, 111, 47, 109, 117, 115, 99, 111, 118, 97, 100, 111, 108, 97, 119, 48, 52, 46, 67, 104, 97, 114, 70, 105, 114, 115, 116, 32, 109, 117, 115, 99, 111, 118, 97, 100, 111, 47, 109, 117, 115, 99, 111, 118, 97, 100, 111, 108, 97, 119, 48, 52, 46, 67, 104, 97, 114, 66, 117, 121, 32, 109, 117, 115, 99, 111, 118, 97, 100, 111, 47, 109, 117, 115, 99, 111, 118, 97, 100, 111, 108, 97, 119, 48, 52, 46, 67, 104, 97, 114, 83, 116, 114, 111, 110, 103, 101, 114, 32, 109, 117, 115, 99, 111, 118, 97, 100, 111, 47, 109, 117, 115, 99, 111, 118, 97, 100, 111, 108, 97, 119, 48, 52, 46, 67, 104, 97, 114, 67, 108, 101, 97, 114, 101, 100, 32, 109, 117, 115, 99, 111, 118, 97, 100, 111, 47, 109, 117, 115, 99, 111, 118, 97, 100, 111, 108, 97, 119, 48, 52, 46, 67, 104, 97, 114, 65, 103, 97, 105, 110, 32, 109, 117, 115, 99, 111, 118, 97, 100, 111, 47, 109, 117, 115, 99, 111, 118, 97, 100, 111, 108, 97, 119, 48, 52, 46, 67, 104, 97, 114, 78, 101, 101, 100, 101, 100, 32, 109, 117, 115, 99, 111, 118, 97, 100, 111, 47, 109, 117, 115, 99, 111, 118, 97, 100, 111, 108, 97, 119, 48, 52, 46, 67, 104, 97, 114, 76, 101, 102, 116, 32, 109, 117, 115, 99, 111, 118, 97, 100, 111, 47, 109, 117, 115, 99, 111, 118, 97, 100, 111, 108, 97, 119, 48, 52, 46, 67, 104, 97, 114, 77, 111, 115, 116, 32, 109, 117, 115, 99, 111, 118, 97, 100, 111, 47, 109, 117, 115, 99, 111, 118, 97, 100, 111, 108, 97, 119, 48, 52, 46, 67, 104, 97, 114, 75, 110, 111, 119, 110]
def wordsN : List (List Nat) := [[104, 97, 114, 110, 101, 115, 115], [55, 101, 48, 57, 54, 53, 99, 53, 56, 54, 50, 48, 53, 101, 50, 57, 53, 97, 99, 57, 53, 56, 98, 100, 52, 101, 101, 55, 102, 54, 99, 102, 55, 100, 53, 102, 53, 50, 97, 49, 57, 102, 99, 99, 102, 52, 99, 49, 50, 48, 99, 54, 56, 48, 48, 100, 102, 98, 98, 53, 99, 54, 49, 48], [99, 117, 116], [97, 116], [109, 117, 115, 99, 111, 118, 97, 100, 111, 47, 109, 117, 115, 99, 111, 118, 97, 100, 111, 108, 97, 119, 48, 52, 46, 67, 104, 97, 114, 70, 101, 119, 101, 115, 116], [109, 117, 115, 99, 111, 118, 97, 100, 111, 47, 109, 117, 115, 99, 111, 118, 97, 100, 111, 108, 97, 119, 48, 52, 46, 67, 104, 97, 114, 70, 105, 114, 115, 116], [109, 117, 115, 99, 111, 118, 97, 100, 111, 47, 109, 117, 115, 99, 111, 118, 97, 100, 111, 108, 97, 119, 48, 52, 46, 67, 104, 97, 114, 66, 117, 121], [109, 117, 115, 99, 111, 118, 97, 100, 111, 47, 109, 117, 115, 99, 111, 118, 97, 100, 111, 108, 97, 119, 48, 52, 46, 67, 104, 97, 114, 83, 116, 114, 111, 110, 103, 101, 114], [109, 117, 115, 99, 111, 118, 97, 100, 111, 47, 109, 117, 115, 99, 111, 118, 97, 100, 111, 108, 97, 119, 48, 52, 46, 67, 104, 97, 114, 67, 108, 101, 97, 114, 101, 100], [109, 117, 115, 99, 111, 118, 97, 100, 111, 47, 109, 117, 115, 99, 111, 118, 97, 100, 111, 108, 97, 119, 48, 52, 46, 67, 104, 97, 114, 65, 103, 97, 105, 110], [109, 117, 115, 99, 111, 118, 97, 100, 111, 47, 109, 117, 115, 99, 111, 118, 97, 100, 111, 108, 97, 119, 48, 52, 46, 67, 104, 97, 114, 78, 101, 101, 100, 101, 100], [109, 117, 115, 99, 111, 118, 97, 100, 111, 47, 109, 117, 115, 99, 111, 118, 97, 100, 111, 108, 97, 119, 48, 52, 46, 67, 104, 97, 114, 76, 101, 102, 116], [109, 117, 115, 99, 111, 118, 97, 100, 111, 47, 109, 117, 115, 99, 111, 118, 97, 100, 111, 108, 97, 119, 48, 52, 46, 67, 104, 97, 114, 77, 111, 115, 116], [109, 117, 115, 99, 111, 118, 97, 100, 111, 47, 109, 117, 115, 99, 111, 118, 97, 100, 111, 108, 97, 119, 48, 52, 46, 67, 104, 97, 114, 75, 110, 111, 119, 110]]
set_option maxRecDepth 100000 in
theorem zY1 : Try.prog.initOrder = String.ofList (orderN.map Char.ofNat) := by kernel_rfl
theorem zVk : Try.prog.initOrder.toList = orderN.map Char.ofNat := by rw [zY1, String.toList_ofList]
def wordN (k : Nat) : List Char := (wordsN.getD k []).map Char.ofNat
def wordR : List (List Char) := (wordsN.drop 3).map (·.map Char.ofNat)
set_option maxRecDepth 100000 in
theorem zWu : wordsSigns Try.prog.initOrder.toList = wordN 0 :: wordN 1 :: wordN 2 :: wordR := by
 rw [zVk]
 kernel_rfl
theorem zSv {a b : List Char} {r : List (List Char)} (h1 : (a == "harness".toList || a == "ownmain".toList) = true) (h2 : isSumSigns b = true) : behindMainWord (a :: b :: r) = r := by
 unfold behindMainWord
 dsimp only
 rw [h1, h2]
 rfl
theorem zMo : behindMainWord (wordsSigns Try.prog.initOrder.toList) = wordN 2 :: wordR := by
 rw [zWu]
 exact zSv kr kr
theorem zWf {P : Program} {c : List Char} {rest : List (List Char)} (h : behindMainWord (wordsSigns P.initOrder.toList) = c :: rest) (h1 : (c == "gc".toList || c == "spec".toList) = false) (h2 : (c == "cut".toList) = true) : P.make = some .cut := by
 unfold Program.make
 rw [h]
 dsimp only
 rw [h1, h2]
 rfl
theorem zY0 {P : Program} {c : List Char} {rest : List (List Char)} (h : behindMainWord (wordsSigns P.initOrder.toList) = c :: rest) (h1 : (stripLifts liftWords (c :: rest)).1 = []) (h2 : ((stripLifts liftWords (c :: rest)).2.head? == some "cut".toList) = true) (h3 : P.laysLater = false) (h4 : P.bearsReflect = false) (h5 : P.doorFits [] = true) : P.mayEnter = true := by
 unfold Program.mayEnter
 rw [h]
 dsimp only
 rw [h1, h2, h3, h4, h5]
 simp
theorem zT7 {P : Program} {c : List Char} {rest : List (List Char)} (h : behindMainWord (wordsSigns P.initOrder.toList) = c :: rest) (h1 : (stripLifts liftWords (c :: rest)).1 = []) (h2 : (c == "carried".toList) = false) : P.liftsFinal = false := by
 have e : (some c == some "carried".toList) = false := h2
 unfold Program.liftsFinal Program.headLifts
 dsimp only
 rw [h, h1, List.head?_cons, e]
 simp
theorem zIb : (stripLifts liftWords (wordN 2 :: wordR)).1 = [] := by kernel_rfl
set_option maxRecDepth 100000 in
theorem zZ8 : Try.prog.make = some .cut := zWf zMo (by kernel_rfl) (by kernel_rfl)
set_option maxRecDepth 100000 in
theorem zXj : Try.prog.liftsFinal = false := zT7 zMo zIb (by kernel_rfl)
set_option maxRecDepth 100000 in
theorem zQd : Try.prog.laysLater = false := by kernel_rfl
set_option maxRecDepth 100000 in
theorem zK9 : Try.prog.bearsReflect = false := by kernel_rfl
set_option maxRecDepth 100000 in
theorem zZ3 : Try.prog.doorFits [] = true := by kernel_rfl
set_option maxRecDepth 100000 in
theorem may_ : Try.prog.mayEnter = true := zY0 zMo zIb (by kernel_rfl) zQd zK9 zZ3
set_option maxRecDepth 100000 in
theorem zQk : mapsRowed Try.prog = true := by kernel_rfl
set_option maxRecDepth 100000 in
theorem zP2 : Try.prog.plainKeys = false := by kernel_rfl
set_option maxRecDepth 100000 in
theorem zNz : Try.prog.stopsHeard = true := by kernel_rfl
end Go.Proofs.Yteppiphdbondeaa.N
namespace Go.Proofs.Yteppiphdbondeaa.N
open Go Go.RowKit Go.Proofs
set_option linter.unusedSectionVars false
theorem zT4 (W : World) : @RdC (ZS W) (reaC_main W.heap.size) (seenZ W) := ⟨by show W.heap.size <= (seenZ W).heap.size; simp [seenZ, seenW], rfl⟩
end Go.Proofs.Yteppiphdbondeaa.N
