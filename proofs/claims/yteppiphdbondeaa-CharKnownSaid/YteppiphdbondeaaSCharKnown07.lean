/- Parts of the walk of the law CharKnown: T9, ChZ, T10, ChS, ChV, T11, ChX, T12, ChE, T13, T14. -/
import Derived.Test.YteppiphdbondeaaSCharKnown06
import Derived.Test.YteppiphdbondeaaProg
namespace Go.Proofs.Yteppiphdbondeaa.N
open Go Go.RowKit Go.Proofs
set_option linter.unusedSectionVars false
variable [I : Sys]
theorem F.ent56 : Enters Try.prog 56 := jG Try.func56 rfl (by kernel_rfl)
theorem F.ent60 : Enters Try.prog 60 := jG Try.func60 rfl (by kernel_rfl)
theorem F.ent75 : Enters Try.prog 75 := jG Try.func75 rfl (by kernel_rfl)
theorem F.ti121 : TI Try.prog 121 (.chan none) 1 8 := TI.of (by kernel_rfl)
theorem F.ti122 : TI Try.prog 122 (.chan none) 1 8 := TI.of (by kernel_rfl)
theorem F.ti123 : TI Try.prog 123 (.agg [].toArray) 0 0 := TI.of (by kernel_rfl)
theorem F.ti131 : TI Try.prog 131 (.agg [.int .u64 0, .int .u32 0].toArray) 2 16 := TI.of (by kernel_rfl)
theorem zUo {low : Nat} {fA dA eA : Option Addr} {fc nd dc kiln ec : Nat} {fs : List Flt} {days gl : List Nat} (h3 : fs.length <= 3) (hf : ∀ f ∈ fs, FltOk f) (hday : ∀ n ∈ days, n <= 12) (hdl : days.length <= 5) (w : World) (hlow : low <= w.heap.size) (hout : w.output = gout [0]) (hgl : ∀ b ∈ gl, ∃ cs t, w.heap[b]? = some (.cells cs t (0, 0)) ∧ 0 < cs.size) (hRd : 0 < fs.length -> ∃ g o x, g ∈ gl ∧ fA = some ⟨g, o, x⟩) (hF : RdL Flt.cells 4 w fA fs) (hE : RdL ncell 1 w eA days) : @Calls Try.prog (zSys Try.prog (Cp low 131 msgM)) 56 #[.agg (CA fA fs.length fc kiln dA nd dc).toArray, .slice eA days.length ec] w fun e w' => ∃ l b, e = .returned (.map (some b)) ∧ l.Nodup ∧ (∀ m, m ∈ l ↔ Rch fs kiln days m) ∧ (∀ m ∈ l, MOk m) ∧ Grew w w' [.blk b (KM.obj (tr l))] := by
 letI : Sys := zSys Try.prog (Cp low 131 msgM)
 refine enter (N := 52) [(0, .agg (CA fA fs.length fc kiln dA nd dc).toArray), (1, .slice eA days.length ec)] Try.func56 rfl Try.ntmps56 rfl rfl ?_
 refine zD (zB (jT rfl rfl ?_))
 intro b2
 refine zE rfl rfl (zA (zC (zD (zB (zCt rfl ?_)))))
 intro b15
 refine zX rfl rfl F.agg77 F.ti77 ?_
 refine zW (vs := [_]) rfl rfl F.ent60 (fun a w ha => zBy fA dA fc nd dc kiln fs h3 hf w (RdL.later hF ha.below)) ?_
 refine zHx rfl (l := []) (t := start fs) (.inr rfl) rfl rfl rfl Try.underlying86 (by simp) (vU h3 hf _ (Nat.le_refl _)) (by simp) (by repeat (first | exact Upd.head _ | apply Upd.tail)) ?_
 refine zF rfl rfl (zE rfl rfl (zA (zC (zD (zD (zB (zF rfl rfl (jX rfl rfl Try.underlying22 ?_))))))))
 refine zF rfl rfl (zA (zC (zV (vT (G := Nat × List Mor × Nat) (fun g => g.1 <= days.length ∧ g.2.1.Nodup ∧ ∀ m, m ∈ g.2.1 ↔ Rch fs kiln (days.take g.1) m) (fun g => days.length - g.1) (fun g => [(2, .pointer (some ⟨b2, 0, none⟩)), (5, .map (some g.2.2)), (19, .slice eA days.length ec), (20, .int .i64 (days.length : Int)), (21, .int .i64 (g.1 : Int))]) (fun g => [.blk g.2.2 (KM.obj (tr g.2.1)), .blk b2 (.cells (CA fA fs.length fc kiln dA nd dc).toArray 77 (0, 0))]) (0, [start fs], b15) ⟨Nat.zero_le _, by simp, fun m => by simp [Rch]⟩ sbn pkk ?_))))
 rintro ⟨k, l, mp⟩ hk
 dsimp only at hk ⊢
 have hlok : ∀ m ∈ l, MOk m := fun m hm => Rch.ok h3 hf _ m ((hk.2.2 m).1 hm)
 have hl1000 := zUx hk.2.1 hlok
 refine zD (zB (zI rfl rfl rfl kG ?_))
 refine zA (zC (zD (zR rfl (fun hc0 => ?_) (fun hc0 => ?_))))
 ·have hk' : k < days.length := by omega
  obtain ⟨b, o, rfl, hb, hcell⟩ := hE om
  obtain ⟨sugar, hx⟩ : ∃ x, days[k]? = some x := ⟨_, List.getElem?_eq_getElem hk'⟩
  have hxs : sugar <= 12 := hday sugar (List.mem_of_getElem? hx)
  refine zQ (zC (zD (zV (zD (zB (qE (j := k) rfl rfl rfl Try.underlying22 F.ti3 rfl hk' ?_))))))
  refine kQ (v := .int .i64 (sugar : Int)) rfl rfl F.one3 (fun a w ha => ha.old (hcell k sugar hx 0 _ rfl) hb) ?_
  refine jA rfl F.ti3 ?_
  intro b7
  refine zK rfl rfl F.ti3 rfl ?_
  refine zA (zC (zD (zRy (X := Nat × Nat × Nat × Nat) (fun g => (8, .pointer (some ⟨g.2.2.1, 0, none⟩)) :: (9, .pointer (some ⟨g.2.2.2, 0, none⟩)) :: [(2, .pointer (some ⟨b2, 0, none⟩)), (5, .map (some mp)), (7, .pointer (some ⟨b7, 0, none⟩)), (19, .slice (some ⟨b, o, none⟩) days.length ec), (20, .int .i64 (days.length : Int)), (21, .int .i64 (k : Int))]) (fun g => [.blk g.1 (.chan 0 #[] false 0 0 false), .blk g.2.1 (.chan 0 #[] false 0 0 false), .blk g.2.2.1 (.cells [.chan (some g.1)].toArray 121 (0, 0)), .blk g.2.2.2 (.cells [.chan (some g.2.1)].toArray 122 (0, 0)), .blk b7 (.cells [.int .i64 (sugar : Int)].toArray 3 (0, 0)), .blk mp (KM.obj (tr l)), .blk b2 (.cells (CA fA fs.length fc kiln dA nd dc).toArray 77 (0, 0))]) ?_ ?_)))
  ·refine zI3 F.follows 6 rfl [false, false, false, false, false, false] rfl nsl ?_
   refine qA [0, 1, 2, 3] kr (by simp) ⟨⟨_, rfl, ?_⟩, ⟨_, rfl, ?_⟩, ⟨_, rfl, ?_⟩, ⟨_, rfl, ?_⟩, trivial⟩
   ·refine jN rfl Try.underlying121 F.ti95 ?_
    intro f0
    refine zA (anx (qA [1, 2, 3] kr (by simp) ⟨⟨_, rfl, ?_⟩, ⟨_, rfl, ?_⟩, ⟨_, rfl, ?_⟩, trivial⟩))
    ·refine jN rfl Try.underlying122 F.ti123 ?_
     intro d0
     refine zA (anx (qA [2, 3] kr (by simp) ⟨⟨_, rfl, ?_⟩, ⟨_, rfl, ?_⟩, trivial⟩))
     ·refine jA rfl F.ti121 ?_
      intro fb
      refine zA (anx (apk 3 rfl ?_))
      ·refine jA rfl F.ti122 ?_
       intro db
       refine zA (anx (apk 4 rfl ?_))
       ·refine zK rfl rfl F.ti121 rfl ?_
        refine zA (anx (apk 5 rfl ?_))
        ·refine zK rfl rfl F.ti122 rfl ?_
         refine zA (anx (adn ?_))
         exact kX (f0, d0, fb, db) sbn pkk
     ·refine jA rfl F.ti122 ?_
      intro db
      refine zA (anx (apk 2 rfl ?_))
      ·refine jA rfl F.ti121 ?_
       intro fb
       refine zA (anx (apk 4 rfl ?_))
       ·refine zK rfl rfl F.ti121 rfl ?_
        refine zA (anx (apk 5 rfl ?_))
        ·refine zK rfl rfl F.ti122 rfl ?_
         refine zA (anx (adn ?_))
         exact kX (f0, d0, fb, db) sbn pkk
    ·refine jA rfl F.ti121 ?_
     intro fb
     refine zA (anx (qA [1, 3] kr (by simp) ⟨⟨_, rfl, ?_⟩, ⟨_, rfl, ?_⟩, trivial⟩))
     ·refine jN rfl Try.underlying122 F.ti123 ?_
      intro d0
      refine zA (anx (apk 3 rfl ?_))
      ·refine jA rfl F.ti122 ?_
       intro db
       refine zA (anx (apk 4 rfl ?_))
       ·refine zK rfl rfl F.ti121 rfl ?_
        refine zA (anx (apk 5 rfl ?_))
        ·refine zK rfl rfl F.ti122 rfl ?_
         refine zA (anx (adn ?_))
         exact kX (f0, d0, fb, db) sbn pkk
     ·refine jA rfl F.ti122 ?_
      intro db
      refine zA (anx (qA [1, 4] kr (by simp) ⟨⟨_, rfl, ?_⟩, ⟨_, rfl, ?_⟩, trivial⟩))
      ·refine jN rfl Try.underlying122 F.ti123 ?_
       intro d0
       refine zA (anx (apk 4 rfl ?_))
       ·refine zK rfl rfl F.ti121 rfl ?_
        refine zA (anx (apk 5 rfl ?_))
        ·refine zK rfl rfl F.ti122 rfl ?_
         refine zA (anx (adn ?_))
         exact kX (f0, d0, fb, db) sbn pkk
      ·refine zK rfl rfl F.ti121 rfl ?_
       refine zA (anx (apk 1 rfl ?_))
       ·refine jN rfl Try.underlying122 F.ti123 ?_
        intro d0
        refine zA (anx (apk 5 rfl ?_))
        ·refine zK rfl rfl F.ti122 rfl ?_
         refine zA (anx (adn ?_))
         exact kX (f0, d0, fb, db) sbn pkk
    ·refine jA rfl F.ti122 ?_
     intro db
     refine zA (anx (qA [1, 2] kr (by simp) ⟨⟨_, rfl, ?_⟩, ⟨_, rfl, ?_⟩, trivial⟩))
     ·refine jN rfl Try.underlying122 F.ti123 ?_
      intro d0
      refine zA (anx (apk 2 rfl ?_))
      ·refine jA rfl F.ti121 ?_
       intro fb
       refine zA (anx (apk 4 rfl ?_))
       ·refine zK rfl rfl F.ti121 rfl ?_
        refine zA (anx (apk 5 rfl ?_))
        ·refine zK rfl rfl F.ti122 rfl ?_
         refine zA (anx (adn ?_))
         exact kX (f0, d0, fb, db) sbn pkk
     ·refine jA rfl F.ti121 ?_
      intro fb
      refine zA (anx (qA [1, 4] kr (by simp) ⟨⟨_, rfl, ?_⟩, ⟨_, rfl, ?_⟩, trivial⟩))
      ·refine jN rfl Try.underlying122 F.ti123 ?_
       intro d0
       refine zA (anx (apk 4 rfl ?_))
       ·refine zK rfl rfl F.ti121 rfl ?_
        refine zA (anx (apk 5 rfl ?_))
        ·refine zK rfl rfl F.ti122 rfl ?_
         refine zA (anx (adn ?_))
         exact kX (f0, d0, fb, db) sbn pkk
      ·refine zK rfl rfl F.ti121 rfl ?_
       refine zA (anx (apk 1 rfl ?_))
       ·refine jN rfl Try.underlying122 F.ti123 ?_
        intro d0
        refine zA (anx (apk 5 rfl ?_))
        ·refine zK rfl rfl F.ti122 rfl ?_
         refine zA (anx (adn ?_))
         exact kX (f0, d0, fb, db) sbn pkk
   ·refine jN rfl Try.underlying122 F.ti123 ?_
    intro d0
    refine zA (anx (qA [0, 2, 3] kr (by simp) ⟨⟨_, rfl, ?_⟩, ⟨_, rfl, ?_⟩, ⟨_, rfl, ?_⟩, trivial⟩))
    ·refine jN rfl Try.underlying121 F.ti95 ?_
     intro f0
     refine zA (anx (qA [2, 3] kr (by simp) ⟨⟨_, rfl, ?_⟩, ⟨_, rfl, ?_⟩, trivial⟩))
     ·refine jA rfl F.ti121 ?_
      intro fb
      refine zA (anx (apk 3 rfl ?_))
      ·refine jA rfl F.ti122 ?_
       intro db
       refine zA (anx (apk 4 rfl ?_))
       ·refine zK rfl rfl F.ti121 rfl ?_
        refine zA (anx (apk 5 rfl ?_))
        ·refine zK rfl rfl F.ti122 rfl ?_
         refine zA (anx (adn ?_))
         exact kX (f0, d0, fb, db) sbn pkk
     ·refine jA rfl F.ti122 ?_
      intro db
      refine zA (anx (apk 2 rfl ?_))
      ·refine jA rfl F.ti121 ?_
       intro fb
       refine zA (anx (apk 4 rfl ?_))
       ·refine zK rfl rfl F.ti121 rfl ?_
        refine zA (anx (apk 5 rfl ?_))
        ·refine zK rfl rfl F.ti122 rfl ?_
         refine zA (anx (adn ?_))
         exact kX (f0, d0, fb, db) sbn pkk
    ·refine jA rfl F.ti121 ?_
     intro fb
     refine zA (anx (qA [0, 3] kr (by simp) ⟨⟨_, rfl, ?_⟩, ⟨_, rfl, ?_⟩, trivial⟩))
     ·refine jN rfl Try.underlying121 F.ti95 ?_
      intro f0
      refine zA (anx (apk 3 rfl ?_))
      ·refine jA rfl F.ti122 ?_
       intro db
       refine zA (anx (apk 4 rfl ?_))
       ·refine zK rfl rfl F.ti121 rfl ?_
        refine zA (anx (apk 5 rfl ?_))
        ·refine zK rfl rfl F.ti122 rfl ?_
         refine zA (anx (adn ?_))
         exact kX (f0, d0, fb, db) sbn pkk
     ·refine jA rfl F.ti122 ?_
      intro db
      refine zA (anx (apk 0 rfl ?_))
      ·refine jN rfl Try.underlying121 F.ti95 ?_
       intro f0
       refine zA (anx (apk 4 rfl ?_))
       ·refine zK rfl rfl F.ti121 rfl ?_
        refine zA (anx (apk 5 rfl ?_))
        ·refine zK rfl rfl F.ti122 rfl ?_
         refine zA (anx (adn ?_))
         exact kX (f0, d0, fb, db) sbn pkk
    ·refine jA rfl F.ti122 ?_
     intro db
     refine zA (anx (qA [0, 2] kr (by simp) ⟨⟨_, rfl, ?_⟩, ⟨_, rfl, ?_⟩, trivial⟩))
     ·refine jN rfl Try.underlying121 F.ti95 ?_
      intro f0
      refine zA (anx (apk 2 rfl ?_))
      ·refine jA rfl F.ti121 ?_
       intro fb
       refine zA (anx (apk 4 rfl ?_))
       ·refine zK rfl rfl F.ti121 rfl ?_
        refine zA (anx (apk 5 rfl ?_))
        ·refine zK rfl rfl F.ti122 rfl ?_
         refine zA (anx (adn ?_))
         exact kX (f0, d0, fb, db) sbn pkk
     ·refine jA rfl F.ti121 ?_
      intro fb
      refine zA (anx (apk 0 rfl ?_))
      ·refine jN rfl Try.underlying121 F.ti95 ?_
       intro f0
       refine zA (anx (apk 4 rfl ?_))
       ·refine zK rfl rfl F.ti121 rfl ?_
        refine zA (anx (apk 5 rfl ?_))
        ·refine zK rfl rfl F.ti122 rfl ?_
         refine zA (anx (adn ?_))
         exact kX (f0, d0, fb, db) sbn pkk
   ·refine jA rfl F.ti121 ?_
    intro fb
    refine zA (anx (qA [0, 1, 3] kr (by simp) ⟨⟨_, rfl, ?_⟩, ⟨_, rfl, ?_⟩, ⟨_, rfl, ?_⟩, trivial⟩))
    ·refine jN rfl Try.underlying121 F.ti95 ?_
     intro f0
     refine zA (anx (qA [1, 3] kr (by simp) ⟨⟨_, rfl, ?_⟩, ⟨_, rfl, ?_⟩, trivial⟩))
     ·refine jN rfl Try.underlying122 F.ti123 ?_
      intro d0
      refine zA (anx (apk 3 rfl ?_))
      ·refine jA rfl F.ti122 ?_
       intro db
       refine zA (anx (apk 4 rfl ?_))
       ·refine zK rfl rfl F.ti121 rfl ?_
        refine zA (anx (apk 5 rfl ?_))
        ·refine zK rfl rfl F.ti122 rfl ?_
         refine zA (anx (adn ?_))
         exact kX (f0, d0, fb, db) sbn pkk
     ·refine jA rfl F.ti122 ?_
      intro db
      refine zA (anx (qA [1, 4] kr (by simp) ⟨⟨_, rfl, ?_⟩, ⟨_, rfl, ?_⟩, trivial⟩))
      ·refine jN rfl Try.underlying122 F.ti123 ?_
       intro d0
       refine zA (anx (apk 4 rfl ?_))
       ·refine zK rfl rfl F.ti121 rfl ?_
        refine zA (anx (apk 5 rfl ?_))
        ·refine zK rfl rfl F.ti122 rfl ?_
         refine zA (anx (adn ?_))
         exact kX (f0, d0, fb, db) sbn pkk
      ·refine zK rfl rfl F.ti121 rfl ?_
       refine zA (anx (apk 1 rfl ?_))
       ·refine jN rfl Try.underlying122 F.ti123 ?_
        intro d0
        refine zA (anx (apk 5 rfl ?_))
        ·refine zK rfl rfl F.ti122 rfl ?_
         refine zA (anx (adn ?_))
         exact kX (f0, d0, fb, db) sbn pkk
    ·refine jN rfl Try.underlying122 F.ti123 ?_
     intro d0
     refine zA (anx (qA [0, 3] kr (by simp) ⟨⟨_, rfl, ?_⟩, ⟨_, rfl, ?_⟩, trivial⟩))
     ·refine jN rfl Try.underlying121 F.ti95 ?_
      intro f0
      refine zA (anx (apk 3 rfl ?_))
      ·refine jA rfl F.ti122 ?_
       intro db
       refine zA (anx (apk 4 rfl ?_))
       ·refine zK rfl rfl F.ti121 rfl ?_
        refine zA (anx (apk 5 rfl ?_))
        ·refine zK rfl rfl F.ti122 rfl ?_
         refine zA (anx (adn ?_))
         exact kX (f0, d0, fb, db) sbn pkk
     ·refine jA rfl F.ti122 ?_
      intro db
      refine zA (anx (apk 0 rfl ?_))
      ·refine jN rfl Try.underlying121 F.ti95 ?_
       intro f0
       refine zA (anx (apk 4 rfl ?_))
       ·refine zK rfl rfl F.ti121 rfl ?_
        refine zA (anx (apk 5 rfl ?_))
        ·refine zK rfl rfl F.ti122 rfl ?_
         refine zA (anx (adn ?_))
         exact kX (f0, d0, fb, db) sbn pkk
    ·refine jA rfl F.ti122 ?_
     intro db
     refine zA (anx (qA [0, 1] kr (by simp) ⟨⟨_, rfl, ?_⟩, ⟨_, rfl, ?_⟩, trivial⟩))
     ·refine jN rfl Try.underlying121 F.ti95 ?_
      intro f0
      refine zA (anx (qA [1, 4] kr (by simp) ⟨⟨_, rfl, ?_⟩, ⟨_, rfl, ?_⟩, trivial⟩))
      ·refine jN rfl Try.underlying122 F.ti123 ?_
       intro d0
       refine zA (anx (apk 4 rfl ?_))
       ·refine zK rfl rfl F.ti121 rfl ?_
        refine zA (anx (apk 5 rfl ?_))
        ·refine zK rfl rfl F.ti122 rfl ?_
         refine zA (anx (adn ?_))
         exact kX (f0, d0, fb, db) sbn pkk
      ·refine zK rfl rfl F.ti121 rfl ?_
       refine zA (anx (apk 1 rfl ?_))
       ·refine jN rfl Try.underlying122 F.ti123 ?_
        intro d0
        refine zA (anx (apk 5 rfl ?_))
        ·refine zK rfl rfl F.ti122 rfl ?_
         refine zA (anx (adn ?_))
         exact kX (f0, d0, fb, db) sbn pkk
     ·refine jN rfl Try.underlying122 F.ti123 ?_
      intro d0
      refine zA (anx (apk 0 rfl ?_))
      ·refine jN rfl Try.underlying121 F.ti95 ?_
       intro f0
       refine zA (anx (apk 4 rfl ?_))
       ·refine zK rfl rfl F.ti121 rfl ?_
        refine zA (anx (apk 5 rfl ?_))
        ·refine zK rfl rfl F.ti122 rfl ?_
         refine zA (anx (adn ?_))
         exact kX (f0, d0, fb, db) sbn pkk
   ·refine jA rfl F.ti122 ?_
    intro db
    refine zA (anx (qA [0, 1, 2] kr (by simp) ⟨⟨_, rfl, ?_⟩, ⟨_, rfl, ?_⟩, ⟨_, rfl, ?_⟩, trivial⟩))
    ·refine jN rfl Try.underlying121 F.ti95 ?_
     intro f0
     refine zA (anx (qA [1, 2] kr (by simp) ⟨⟨_, rfl, ?_⟩, ⟨_, rfl, ?_⟩, trivial⟩))
     ·refine jN rfl Try.underlying122 F.ti123 ?_
      intro d0
      refine zA (anx (apk 2 rfl ?_))
      ·refine jA rfl F.ti121 ?_
       intro fb
       refine zA (anx (apk 4 rfl ?_))
       ·refine zK rfl rfl F.ti121 rfl ?_
        refine zA (anx (apk 5 rfl ?_))
        ·refine zK rfl rfl F.ti122 rfl ?_
         refine zA (anx (adn ?_))
         exact kX (f0, d0, fb, db) sbn pkk
     ·refine jA rfl F.ti121 ?_
      intro fb
      refine zA (anx (qA [1, 4] kr (by simp) ⟨⟨_, rfl, ?_⟩, ⟨_, rfl, ?_⟩, trivial⟩))
      ·refine jN rfl Try.underlying122 F.ti123 ?_
       intro d0
       refine zA (anx (apk 4 rfl ?_))
       ·refine zK rfl rfl F.ti121 rfl ?_
        refine zA (anx (apk 5 rfl ?_))
        ·refine zK rfl rfl F.ti122 rfl ?_
         refine zA (anx (adn ?_))
         exact kX (f0, d0, fb, db) sbn pkk
      ·refine zK rfl rfl F.ti121 rfl ?_
       refine zA (anx (apk 1 rfl ?_))
       ·refine jN rfl Try.underlying122 F.ti123 ?_
        intro d0
        refine zA (anx (apk 5 rfl ?_))
        ·refine zK rfl rfl F.ti122 rfl ?_
         refine zA (anx (adn ?_))
         exact kX (f0, d0, fb, db) sbn pkk
    ·refine jN rfl Try.underlying122 F.ti123 ?_
     intro d0
     refine zA (anx (qA [0, 2] kr (by simp) ⟨⟨_, rfl, ?_⟩, ⟨_, rfl, ?_⟩, trivial⟩))
     ·refine jN rfl Try.underlying121 F.ti95 ?_
      intro f0
      refine zA (anx (apk 2 rfl ?_))
      ·refine jA rfl F.ti121 ?_
       intro fb
       refine zA (anx (apk 4 rfl ?_))
       ·refine zK rfl rfl F.ti121 rfl ?_
        refine zA (anx (apk 5 rfl ?_))
        ·refine zK rfl rfl F.ti122 rfl ?_
         refine zA (anx (adn ?_))
         exact kX (f0, d0, fb, db) sbn pkk
     ·refine jA rfl F.ti121 ?_
      intro fb
      refine zA (anx (apk 0 rfl ?_))
      ·refine jN rfl Try.underlying121 F.ti95 ?_
       intro f0
       refine zA (anx (apk 4 rfl ?_))
       ·refine zK rfl rfl F.ti121 rfl ?_
        refine zA (anx (apk 5 rfl ?_))
        ·refine zK rfl rfl F.ti122 rfl ?_
         refine zA (anx (adn ?_))
         exact kX (f0, d0, fb, db) sbn pkk
    ·refine jA rfl F.ti121 ?_
     intro fb
     refine zA (anx (qA [0, 1] kr (by simp) ⟨⟨_, rfl, ?_⟩, ⟨_, rfl, ?_⟩, trivial⟩))
     ·refine jN rfl Try.underlying121 F.ti95 ?_
      intro f0
      refine zA (anx (qA [1, 4] kr (by simp) ⟨⟨_, rfl, ?_⟩, ⟨_, rfl, ?_⟩, trivial⟩))
      ·refine jN rfl Try.underlying122 F.ti123 ?_
       intro d0
       refine zA (anx (apk 4 rfl ?_))
       ·refine zK rfl rfl F.ti121 rfl ?_
        refine zA (anx (apk 5 rfl ?_))
        ·refine zK rfl rfl F.ti122 rfl ?_
         refine zA (anx (adn ?_))
         exact kX (f0, d0, fb, db) sbn pkk
      ·refine zK rfl rfl F.ti121 rfl ?_
       refine zA (anx (apk 1 rfl ?_))
       ·refine jN rfl Try.underlying122 F.ti123 ?_
        intro d0
        refine zA (anx (apk 5 rfl ?_))
        ·refine zK rfl rfl F.ti122 rfl ?_
         refine zA (anx (adn ?_))
         exact kX (f0, d0, fb, db) sbn pkk
     ·refine jN rfl Try.underlying122 F.ti123 ?_
      intro d0
      refine zA (anx (apk 0 rfl ?_))
      ·refine jN rfl Try.underlying121 F.ti95 ?_
       intro f0
       refine zA (anx (apk 4 rfl ?_))
       ·refine zK rfl rfl F.ti121 rfl ?_
        refine zA (anx (apk 5 rfl ?_))
        ·refine zK rfl rfl F.ti122 rfl ?_
         refine zA (anx (adn ?_))
         exact kX (f0, d0, fb, db) sbn pkk
  rintro ⟨f0, d0, fb, db⟩
  dsimp only
  refine zC (zD (zB (jA rfl F.ti131 ?_)))
  intro b10
  refine zA (zC ?_)
  refine zRo (φ := f0 ≠ b10 ∧ d0 ≠ b10 ∧ d0 ≠ f0 ∧ w.heap.size <= b2 ∧ w.heap.size <= b7 ∧ w.heap.size <= fb) (fun a w1 ha => ?_) (fun hne => ?_)
  ·have hap := ha.apart
   have h1 := (ha.own _ (InB.mem (b := b2))).1
   have h2 := (ha.own _ (InB.mem (b := b7))).1
   have h4 := (ha.own _ (InB.mem (b := fb))).1
   have hids : [b10, f0, d0, fb, db, b7, mp, b2].Nodup := hap
   simp only [List.nodup_cons, List.mem_cons, not_or] at hids
   exact ⟨fun e => hids.1.1 e.symm, fun e => hids.1.2.1 e.symm, fun e => hids.2.1.1 e.symm, h1, h2, h4⟩
  obtain ⟨hne1, hne2, hne3, hB1, hB2, hB3⟩ := hne
  refine zOk hout ?_
  refine zEv (b := b10) (by repeat (first | exact Upd.head _ | apply Upd.tail)) (.inl ⟨_, _, rfl, by simp⟩) hlow (fun σ hb ok hg => zWq hlow hb ok hg) ?_
  refine zEv (b := f0) (by repeat (first | exact Upd.head _ | apply Upd.tail)) (.inr ⟨_, _, rfl⟩) hlow (fun σ hb ok hg => zV3 hlow hb hne1 ok hg) ?_
  refine zEv (b := d0) (by repeat (first | exact Upd.head _ | apply Upd.tail)) (.inr ⟨_, _, rfl⟩) hlow (fun σ hb ok hg => zV1 hlow hb hne2 hne3 ok hg) ?_
  refine zIm ?_
  refine zC (zD (zD (zB (zF rfl rfl (zEe rfl rfl Try.underlying86 (InB.mem (b := mp) (o := KM.obj (tr l))) ?_)))))
  intro it
  refine zA (zC (zV (zCp (T := List (Nat × Mor × Value) × Array Nat × Nat × List Nat × List Mor × List Nat) (fun g => HireI fs kiln sugar gl w.heap.size b2 b7 fb l g.1 g.2.1 g.2.2.1 g.2.2.2.1 g.2.2.2.2.1 g.2.2.2.2.2) (fun g => g.1.length) (fun g => (Cz Try.prog w.heap.size 52 [] w g.2.2.2.1 (Mn.enc b10 f0 d0 (cde g.2.2.2.1) g.2.2.2.2.2 (.hire 0 g.2.2.1)))) (fun g => [(2, .pointer (some ⟨b2, 0, none⟩)), (5, .map (some mp)), (7, .pointer (some ⟨b7, 0, none⟩)), (8, .pointer (some ⟨fb, 0, none⟩)), (9, .pointer (some ⟨db, 0, none⟩)), (10, .pointer (some ⟨b10, 0, none⟩)), (19, .slice (some ⟨b, o, none⟩) days.length ec), (20, .int .i64 (days.length : Int)), (21, .int .i64 (k : Int)), (28, .pointer (some ⟨it, 0, none⟩))]) (fun g => [.blk it (.mapIter (some mp) (tr l).length g.2.1 (tr l).length), .blk mp (KM.rem g.1 (tr l).length), .blk b2 (.cells (CA fA fs.length fc kiln dA nd dc).toArray 77 (0, if g.2.2.1 = 0 then 0 else 3)), .blk b7 (.cells [.int .i64 (sugar : Int)].toArray 3 (0, if g.2.2.1 = 0 then 0 else 1)), .blk fb (.cells [.chan (some f0)].toArray 121 (0, if g.2.2.1 = 0 then 0 else 1)), .blk db (.cells [.chan (some d0)].toArray 122 (0, 0))]) (fun _ => rfl) (idxd (tr l), #[], 0, [], [], []) (HireI.first hk.2.1 hlok) rfl sbn pkk ?_)))
  rintro ⟨r, seen, m, L, hired, ow⟩ hI
  dsimp only at hI ⊢
  refine zD (zB (zL8 KM (hpf := fun o => [.blk it o, .blk mp (KM.rem r (tr l).length), .blk b2 (.cells (CA fA fs.length fc kiln dA nd dc).toArray 77 (0, if m = 0 then 0 else 3)), .blk b7 (.cells [.int .i64 (sugar : Int)].toArray 3 (0, if m = 0 then 0 else 1)), .blk fb (.cells [.chan (some f0)].toArray 121 (0, if m = 0 then 0 else 1)), .blk db (.cells [.chan (some d0)].toArray 122 (0, 0))]) rfl rfl (InB.mem (b := mp) (o := KM.rem r (tr l).length)) hI.good hI.fresh (fun o => .head _) (fun hr0 => ?_) (fun e he => ?_)))
  ·subst hr0
   refine zL rfl rfl rfl (zA (zC (zD (jL rfl (kI (zT (zT (jK (zC (zD (zB (vE (fs := []) (cs := [_, _]) rfl rfl rfl ?_))))))))))))
   refine zEq (T := Unit) (fun _ => True) (fun _ => (Cz Try.prog w.heap.size 52 [] w (L ++ [db]) (Mn.enc b10 f0 d0 (cde (L ++ [db])) ow .hear))) (fun _ => [.blk db (.cells [.chan (some d0)].toArray 122 (0, 1)), .blk it (.mapIter (some mp) (tr l).length seen (tr l).length), .blk mp (KM.rem [] (tr l).length), .blk b2 (.cells (CA fA fs.length fc kiln dA nd dc).toArray 77 (0, if m = 0 then 0 else 3)), .blk b7 (.cells [.int .i64 (sugar : Int)].toArray 3 (0, if m = 0 then 0 else 1)), .blk fb (.cells [.chan (some f0)].toArray 121 (0, if m = 0 then 0 else 1))]) (fun _ => rfl) (fun a w1 ha => ?_) (fun _ _ => ?_)
   ·obtain ⟨h1, h2, h3', h4⟩ := zXe (low := low) (m := m) (W0 := b10) (d0 := d0) (ow := ow) (hp0 := [.blk it (.mapIter (some mp) (tr l).length seen (tr l).length), .blk mp (KM.rem [] (tr l).length), .blk b2 (.cells (CA fA fs.length fc kiln dA nd dc).toArray 77 (0, if m = 0 then 0 else 3)), .blk b7 (.cells [.int .i64 (sugar : Int)].toArray 3 (0, if m = 0 then 0 else 1)), .blk fb (.cells [.chan (some f0)].toArray 121 (0, if m = 0 then 0 else 1))]) rfl (ha.pck pkk)
    exact zRb (K := Cp low 131 msgM) ha.outsZ h1 (fun σ ok hg => by rw [zJk hg]; exact h2) (fun σ n ok hg hn hno => zW3 ok hg hn hno) zLf (zQe rfl ha) rfl h3' ⟨(), trivial, h4⟩
   refine zA (zC (zD (zB ?_)))
   have how : ∀ x ∈ ow, x < 1000 := fun x hx => by
    rw [hI.owes, List.mem_flatMap] at hx
    obtain ⟨y, hy, hx⟩ := hx
    exact zUk h3 hf (hlok y ((hI.all y).2 (.inl hy))) x hx
   refine zCt rfl ?_
   intro b38
   refine zE rfl rfl (zA (zC (zD (zD (zB (zE rfl rfl (zA (zC (zV (zCp (T := List Nat × List Mor × Bool) (fun g => HearI ow g.1 g.2.1 ∧ (g.2.2 = false -> g.1 = [])) (fun g => if g.2.2 then g.1.length + 1 else 0) (fun g => (Cz Try.prog w.heap.size 52 [] w (L ++ [db]) (Mn.enc b10 f0 d0 (cde (L ++ [db])) g.1 (if g.2.2 then .hear else .over)))) (fun g => [(2, .pointer (some ⟨b2, 0, none⟩)), (8, .pointer (some ⟨fb, 0, none⟩)), (9, .pointer (some ⟨db, 0, none⟩)), (12, .map (some b38)), (13, .bool g.2.2), (19, .slice (some ⟨b, o, none⟩) days.length ec), (20, .int .i64 (days.length : Int)), (21, .int .i64 (k : Int))]) (fun g => [.blk b38 (KM.obj (tr g.2.1)), .blk db (.cells [.chan (some d0)].toArray 122 (0, 1)), .blk b2 (.cells (CA fA fs.length fc kiln dA nd dc).toArray 77 (0, if m = 0 then 0 else 3)), .blk fb (.cells [.chan (some f0)].toArray 121 (0, if m = 0 then 0 else 1))]) (fun g => rfl) (ow, [], true) ⟨HearI.first, by simp⟩ rfl sbn pkk ?_))))))))))
   rintro ⟨po, lc, op⟩ ⟨hH, hop⟩
   dsimp only at hH hop ⊢
   refine zD (zD (zB (zF rfl rfl (zA (zC (kV rfl (fun hc2 => ?_) (fun hc2 => ?_)))))))
   ·subst hc2
    simp only [if_true]
    refine zQ (zC (zV (zD (zD (zB (zF1 rfl rfl F.one121 ?_))))))
    refine zA (zC (zB (zF1 rfl rfl F.one122 ?_)))
    refine zA (zC (zD (zB (zTf (T := Option Nat) (fun g => match g with | some x => x ∈ po | none => po = []) (fun g => match g with | some x => (Cz Try.prog w.heap.size 52 [] w (L ++ [db]) (Mn.enc b10 f0 d0 (cde (L ++ [db])) (po.erase x) .hear)) | none => (Cz Try.prog w.heap.size 52 [] w (L ++ [db]) (Mn.enc b10 f0 d0 (cde (L ++ [db])) [] .over))) (fun g => match g with | some x => .tuple #[.int .i64 0, .bool true, msgM x, (.agg #[])] | none => .tuple #[.int .i64 1, .bool false, (.agg #[.int .i64 0, .int .i64 0, .int .i64 0, .int .u8 0]), (.agg #[])]) (fun _ => [.blk b38 (KM.obj (tr lc)), .blk db (.cells [.chan (some d0)].toArray 122 (0, 1)), .blk b2 (.cells (CA fA fs.length fc kiln dA nd dc).toArray 77 (0, if m = 0 then 0 else 3)), .blk fb (.cells [.chan (some f0)].toArray 121 (0, if m = 0 then 0 else 1))]) (by rintro (_ | _) <;> rfl) (by rintro (_ | _) <;> rfl) rfl (fun a w1 ha => ?_) ?_))))
    ·refine zSg (K := Cp low 131 msgM) (cs := [(f0, (.agg #[.int .i64 0, .int .i64 0, .int .i64 0, .int .u8 0])), (d0, (.agg #[]))]) (shape := .select) ha.outsZ rfl (zMy ..) (zOq rfl rfl F.ti95 F.ti123 ha) (fun n c z x γ' hn hh => ?_) (fun n c z σ hn ok hg hc => ?_)
     ·obtain ⟨rfl, y, hy, rfl, rfl⟩ := zS8 hh
      rcases n with _ | _ | n
      ·exact ⟨some y, hy, commres0, ha.saidZ _⟩
      ·simp at hn
       exact absurd hn.1 hne3
      ·simp at hn
     ·obtain ⟨rfl, ho, σ', hF'⟩ := zTw ok hg hc
      rcases n with _ | _ | n
      ·simp at hn
       exact absurd hn.1.symm hne3
      ·simp at hn
       obtain rfl := hn
       refine ⟨_, σ', hF', none, ho, commres1, ?_⟩
       rw [ho]
       exact ha.saidZ _
      ·simp at hn
    rintro (_ | x) hx <;> dsimp only at hx ⊢
    ·refine zL rfl rfl rfl (zI rfl rfl rfl kC ?_)
     refine zI rfl rfl rfl kC ?_
     refine zA (zC (zV (jL rfl (jZ rfl (zB (zE rfl rfl (zA (zO (zO (wX ([], lc, false) rfl ⟨hx ▸ hH, fun _ => rfl⟩ (by simp) sbn pkk))))))))))
    ·refine zL rfl rfl rfl (zI rfl rfl rfl kC ?_)
     refine zI rfl rfl rfl kC ?_
     refine zA (zC (zV (jZ rfl (zD (zB ?_)))))
     have hx1 : x < 1000 := how x (hH.sub x hx)
     obtain ⟨y0, y1, y2, yw, hyd, hy0, hy1, hy2, hyw⟩ := (zG2 hx1).form
     have hmx : msgM x = .agg (V4 y0 y1 y2 yw).toArray := by unfold msgM; rw [hyd]; rfl
     rw [hmx]
     refine zL rfl rfl rfl (jA rfl F.ti95 ?_)
     intro b14
     refine zK rfl rfl F.ti95 rfl ?_
     refine zA (zC (zB (zF rfl rfl (zX rfl rfl F.agg95 F.ti95 ?_))))
     have hyo : ∀ m ∈ lc, MOk m := fun m hm => by
      obtain ⟨x', h1, rfl⟩ := hH.only m hm
      exact zG2 (how x' h1)
     refine (Decidable.em (decM x ∈ lc)).elim (fun hmem => zMf rfl (l := lc) (t := decM x) (.inl rfl) rfl (by rw [hyd]; rfl) rfl Try.underlying86 hyo (zG2 hx1) hH.nodup hmem (InB.mem (b := b38) (o := KM.obj (tr lc))) ?_) (fun hmem => zHx rfl (l := lc) (t := decM x) (.inl rfl) rfl (by rw [hyd]; rfl) rfl Try.underlying86 hyo (zG2 hx1) hmem (by repeat (first | exact Upd.head _ | apply Upd.tail)) ?_)
     ·refine zA (zO (zO (wX (po.erase x, lc, true) rfl ⟨hH.old hmem, by simp⟩ (by have := List.length_erase_of_mem hx; have := List.length_pos_of_mem hx; simp; omega) sbn pkk)))
     ·refine zA (zO (zO (wX (po.erase x, lc ++ [decM x], true) rfl ⟨hH.new hx hmem, by simp⟩ (by have := List.length_erase_of_mem hx; have := List.length_pos_of_mem hx; simp; omega) sbn pkk)))
   ·subst hc2
    obtain rfl := hop rfl
    simp only [Bool.false_eq_true, if_false]
    refine zMg (hp' := [.blk b38 (KM.obj (tr lc)), .blk b2 (.cells (CA fA fs.length fc kiln dA nd dc).toArray 77 (0, 0))]) (fun σ ok hg => zQ7 ok hg) (fun a v ha => ?_) ?_
    ·refine ha.settledZ (fun b' hb' hlt => ?_) (fun r' hr' => ?_) ?_
     ·rcases List.mem_append.1 hb' with h | h
      ·obtain ⟨cs, t, h1, _⟩ := hgl b' (hI.old b' h hlt)
       exact ⟨cs, t, h1⟩
      ·simp only [List.mem_singleton] at h
       subst h
       have h9 : w.heap.size <= b' := (ha.own _ (InB.mem (b := b'))).1
       omega
     ·simp only [List.mem_cons, List.not_mem_nil, or_false] at hr'
      rcases hr' with rfl | rfl
      ·exact Res.thawm (ha.own (.blk b38 (KM.obj (tr lc))) (by simp))
      ·refine Res.thawn (ha.own (.blk b2 (.cells (CA fA fs.length fc kiln dA nd dc).toArray 77 (0, if m = 0 then 0 else 3))) (by simp)) ?_
       rcases Nat.eq_zero_or_pos m with h | h
       ·exact .inr (by simp [h])
       ·exact .inl (List.mem_append_left _ (hI.some h).1)
     ·have hap := ha.apart
      have hids : [b38, db, b2, fb].Nodup := hap
      show [b38, b2].Nodup
      simp only [List.nodup_cons, List.mem_cons, not_or] at hids ⊢
      exact ⟨⟨hids.1.2.1, List.not_mem_nil⟩, List.not_mem_nil, List.nodup_nil⟩
    refine zSk hout ?_
    refine kI (zT (zT (jK (zC (zB (zF rfl rfl (zE rfl rfl (zA (zO (zC (zB (zI rfl rfl rfl (fun w => jO w (jF _ om om)) ?_))))))))))))
    refine zF rfl rfl (zA (qU (k + 1, lc, b38) ⟨by omega, hH.nodup, fun y => ?_⟩ tdo sbn pkk))
    rw [List.take_add_one, hx, Option.toList_some, Rch.push, HearI.last h3 hf hlok hI.owes (fun x => by rw [hI.all x]; simp) hH y]
    have : (fun x => x ∈ l) = Rch fs kiln (days.take k) := funext fun x => propext (hk.2.2 x)
    rw [this]
  ·obtain ⟨i, mo, v⟩ := e
   obtain ⟨z0, z1, z2, zw, rfl, hz0, hz1, hz2, hzw⟩ := (hI.good.okk _ he).form
   dsimp only
   refine zL rfl rfl rfl (zA (zC (zD (jZ rfl (zQ (zC (zV (zD (zB (zEc KM (e := (i, (⟨[z0, z1, z2], zw⟩ : Mor), v)) rfl rfl (InB.mem (b := mp) (o := KM.rem r (tr l).length)) hI.good he (InB.mem (b := it)) ?_))))))))))
   rw [show KM.kv (⟨[z0, z1, z2], zw⟩ : Mor) = .agg (V4 z0 z1 z2 zw).toArray from rfl]
   refine zL rfl rfl rfl (jA rfl F.ti95 ?_)
   intro b11
   refine zK rfl rfl F.ti95 rfl ?_
   refine zA (zC (zD (zB (zE5 (X := Unit) (first := []) (cap := []) (vs := [_, _]) (p := fun _ => True) (o := fun _ => gout (Mn.enc b10 f0 d0 (cde L) ow (.hire 4 m))) (val := fun _ => .tuple #[]) (rs := fun _ => [.blk b11 (.cells (V4 z0 z1 z2 zw).toArray 95 (0, 0)), .blk it (.mapIter (some mp) (tr l).length (seen.push i) (tr l).length), .blk mp (KM.rem r (tr l).length), .blk b2 (.cells (CA fA fs.length fc kiln dA nd dc).toArray 77 (0, if m = 0 then 0 else 3)), .blk b7 (.cells [.int .i64 (sugar : Int)].toArray 3 (0, if m = 0 then 0 else 1)), .blk fb (.cells [.chan (some f0)].toArray 121 (0, if m = 0 then 0 else 1)), .blk db (.cells [.chan (some d0)].toArray 122 (0, 0))]) rfl rfl rfl F.ent75 (fun a w1 ha => (zYm (by have := hI.count; have := hl1000; omega) ha.outsZ).mono (fun e w' h => ⟨(), trivial, h.1, by rw [h.2]; exact ha.said _⟩)) (fun _ _ => ?_)))))
   refine zA (zC (zD (zB (vE (fs := []) (cs := [_, _, _, _, _]) rfl rfl rfl ?_))))
   refine zLb (φ := w.heap.size <= b11) (fun a w1 ha => (ha.own _ (InB.mem (b := b11))).1) (fun hB4 => ?_)
   refine zEq (T := Unit) (fun _ => True) (fun _ => (Cz Try.prog w.heap.size 52 [] w (L ++ ([b2, b11, b7, fb] ++ gl)) (Mn.enc b10 f0 d0 (cde (L ++ ([b2, b11, b7, fb] ++ gl))) (ow ++ newsOf fs kiln (⟨[z0, z1, z2], zw⟩ : Mor) sugar) (.hire 0 (m + 1))))) (fun _ => [.blk b11 (.cells (V4 z0 z1 z2 zw).toArray 95 (0, 4)), .blk b2 (.cells (CA fA fs.length fc kiln dA nd dc).toArray 77 (0, 3)), .blk b7 (.cells [.int .i64 (sugar : Int)].toArray 3 (0, 1)), .blk fb (.cells [.chan (some f0)].toArray 121 (0, 1)), .blk it (.mapIter (some mp) (tr l).length (seen.push i) (tr l).length), .blk mp (KM.rem r (tr l).length), .blk db (.cells [.chan (some d0)].toArray 122 (0, 0))]) (fun _ => rfl) (fun a w1 ha => ?_) (fun _ _ => ?_)
   ·obtain ⟨h1, h2, h3', h4⟩ := zWj (low := low) (m := m) (W0 := b10) (d0 := d0) (ow := ow) (hp0 := [.blk it (.mapIter (some mp) (tr l).length (seen.push i) (tr l).length), .blk mp (KM.rem r (tr l).length), .blk db (.cells [.chan (some d0)].toArray 122 (0, 0))]) rfl h3 hf hz0 hz1 hz2 hzw hxs hgl hRd hF hI.none hI.some (ha.pck pkk)
    exact zRb (K := Cp low 131 msgM) ha.outsZ h1 (fun σ ok hg => by rw [zJk hg]; exact h2) (fun σ n ok hg hn hno => zSq ok hg hn hno) zLf (zQe rfl ha) rfl h3' ⟨(), trivial, h4⟩
   refine zA (zC (zB (zF rfl rfl (qS (l := (V4 z0 z1 z2 zw)) rfl rfl F.agg95 F.ti95 rfl (fun a w1 ha j v hv => by rw [cell_of_row w1 b11 _ _ _ _ (ha.mem_blk (InB.mem (b := b11)))]; simpa using hv) ?_))))
   refine zIp KM rfl (e := (i, (⟨[z0, z1, z2], zw⟩ : Mor), v)) (hpf := fun o => [.blk b11 (.cells (V4 z0 z1 z2 zw).toArray 95 (0, 4)), .blk b2 (.cells (CA fA fs.length fc kiln dA nd dc).toArray 77 (0, 3)), .blk b7 (.cells [.int .i64 (sugar : Int)].toArray 3 (0, 1)), .blk fb (.cells [.chan (some f0)].toArray 121 (0, 1)), .blk it (.mapIter (some mp) (tr l).length (seen.push i) (tr l).length), .blk mp o, .blk db (.cells [.chan (some d0)].toArray 122 (0, 0))]) rfl rfl Try.underlying86 hI.good he (fun o => (by repeat (first | exact Upd.head _ | apply Upd.tail))) (fun r' hp' hs' => ?_)
   refine zA (zO (wX (r', seen.push i, m + 1, L ++ ([b2, b11, b7, fb] ++ gl), hired ++ [(⟨[z0, z1, z2], zw⟩ : Mor)], (ow ++ newsOf fs kiln (⟨[z0, z1, z2], zw⟩ : Mor) sugar)) rfl (hI.next he hp' hs' hB1 hB4 hB2 hB3) (by have := hp'.length_eq; simp at this ⊢; omega) sbn pkk))
 ·obtain rfl : k = days.length := by omega
  refine kI (zT (zT (jK (zC (zD (zB (zF rfl rfl (zE rfl rfl (zA (zC (zZ ?_)))))))))))
  exact jI rfl (fun a w ha => jY rfl rfl ha) (fun a w ha => ⟨l, mp, rfl, hk.2.1, fun m => by have := hk.2.2 m; rwa [List.take_length] at this, hlok, ha.grown (.cons_cons _ nsl)⟩)

end Go.Proofs.Yteppiphdbondeaa.N
namespace Go.Proofs.Yteppiphdbondeaa.N
open Go Go.RowKit Go.Proofs
set_option linter.unusedSectionVars false
structure FltZ where
 power : Int
 gain : Int
 now : Int
 washed : Bool
 deriving DecidableEq, Inhabited
def FltZ.cells (f : FltZ) : List Value := [.int .i64 f.power, .int .i64 f.gain, .int .i64 f.now, .bool f.washed]
def Flt.toZ (f : Flt) : FltZ := ⟨f.power, f.gain, f.now, f.washed⟩
def zcell (n : Int) : List Value := [.int .i64 n]
def btw (n lo hi : Int) : Bool := decide (lo <= n) && decide (n <= hi)
def chkF (f : FltZ) : Nat := if btw f.power 1 4 && btw f.gain 0 f.power && btw f.now 0 f.power then 0 else 1
def szd (n lo hi : Int) : Nat := if n < lo then 7 else if n > hi then 6 else 0
def chk (fs : List FltZ) (kiln : Int) (days : List Int) : Nat :=
 if szd fs.length 1 3 ≠ 0 then szd fs.length 1 3
 else if fs.any (fun f => chkF f != 0) then 1
 else if btw kiln 0 3 = false then 1
 else if szd days.length 1 4 ≠ 0 then szd days.length 1 4
 else if days.any (fun n => !btw n 0 12) then 1 else 0
theorem zVj (f : FltZ) : chkF f = 0 ∨ chkF f = 1 := by unfold chkF; split <;> simp
theorem RdL.mapped {α β : Type} {cells : β -> List Value} {cl : α -> List Value} {size : Nat} {w : World} {A : Option Addr} {l : List α} (f : α -> β) (h : RdL cl size w A l) (hc : ∀ x, cells (f x) = cl x) : RdL cells size w A (l.map f) := fun hl => by
 obtain ⟨b, o, h1, h2, h3⟩ := h (by simpa using hl)
 refine ⟨b, o, h1, h2, fun k x hk j u hu => ?_⟩
 rw [List.getElem?_map] at hk
 obtain ⟨y, hy, rfl⟩ := Option.map_eq_some_iff.1 hk
 rw [hc] at hu
 exact h3 k y hy j u hu
theorem zEd {α : Type} {p : α -> Bool} {l : List α} {k : Nat} {x : α} (hx : l[k]? = some x) (h : (l.take k).any p = false) (hp : p x = false) : (l.take (k + 1)).any p = false := by
 rw [List.take_add_one, hx, List.any_append, h]
 simp [hp]
theorem zQ9 {α : Type} {p : α -> Bool} {l : List α} {k : Nat} {x : α} (hx : l[k]? = some x) (hp : p x = true) : l.any p = true := List.any_eq_true.2 ⟨x, List.mem_of_getElem? hx, hp⟩
end Go.Proofs.Yteppiphdbondeaa.N
namespace Go.Proofs.Yteppiphdbondeaa.N
open Go Go.RowKit Go.Proofs
set_option linter.unusedSectionVars false
variable [I : Sys]
theorem F.ent52 : Enters Try.prog 52 := jG Try.func52 rfl (by kernel_rfl)
theorem F.ent59 : Enters Try.prog 59 := jG Try.func59 rfl (by kernel_rfl)
theorem F.ent65 : Enters Try.prog 65 := jG Try.func65 rfl (by kernel_rfl)
theorem F.fi27_2 : FI Try.prog 27 2 22 2 := ⟨_, _, Try.underlying27, rfl, rfl, rfl⟩
theorem F.one22 : One Try.prog 22 := ⟨by unfold aggB; rw [Try.underlying22], by rw [Try.underlying22]; simp⟩
theorem F.ti22 : TI Try.prog 22 (.slice none 0 0) 1 24 := TI.of (by kernel_rfl)
theorem vZ (n lo hi : Int) (w : World) : Calls Try.prog 52 #[.int .i64 n, .int .i64 lo, .int .i64 hi] w fun e w' => e = .returned (.bool (btw n lo hi)) ∧ Grew w w' [] := by
 refine enter (N := 15) [(0, .int .i64 n), (1, .int .i64 lo), (2, .int .i64 hi)] Try.func52 rfl Try.ntmps52 rfl rfl ?_
 refine zD (zB (zE rfl rfl (zA (zC (zD (zB (wS 8 14 (.bool (btw n lo hi)) ?_ ?_)))))))
 ·refine zF rfl rfl (zF rfl rfl (zI rfl rfl rfl zNo ?_))
  refine zF rfl rfl (wA (t := 10) rfl (fun hg10 => ?_) (fun hg10 => ?_))
  ·refine zJ rfl rfl (zF rfl rfl (zJ rfl rfl (zF rfl rfl (zJ rfl rfl (zI rfl rfl rfl zNo ?_)))))
   refine jD rfl rfl rfl (zA ?_)
   exact xQ (.cons (by unfold btw; simp_all [look] <;> omega) sbn) sbl
  ·refine jJ rfl rfl rfl (jJ rfl rfl rfl (jJ rfl rfl rfl (zY rfl rfl rfl (zA ?_))))
   exact xQ (.cons (by unfold btw; simp_all [look] <;> omega) sbn) sbl
 refine zE rfl rfl (zA (zC (zZ ?_)))
 exact jI rfl (fun a w ha => jY rfl rfl ha) (fun a w ha => ⟨rfl, ha.grown nsl⟩)

theorem zFf (n lo hi : Int) (w : World) : Calls Try.prog 65 #[.int .i64 n, .int .i64 lo, .int .i64 hi] w fun e w' => e = .returned (.int .i64 ((szd n lo hi : Nat) : Int)) ∧ Grew w w' [] := by
 refine enter (N := 15) [(0, .int .i64 n), (1, .int .i64 lo), (2, .int .i64 hi)] Try.func65 rfl Try.ntmps65 rfl rfl ?_
 refine zD (zB (zE rfl rfl (zA (zC (zD (zV (zD (zB (zF rfl rfl (zF rfl rfl (zI rfl rfl rfl kG ?_)))))))))))
 refine zE rfl rfl (zA (zC (zR rfl (fun hc0 => ?_) (fun hc0 => ?_))))
 ·refine zD (zB (zE rfl rfl (zA (zC (zZ (jQ (zU ?_)))))))
  exact jI rfl (fun a w ha => jY rfl rfl ha) (fun a w ha => ⟨by unfold szd; rw [if_pos hc0]; rfl, ha.grown nsl⟩)
 ·refine zD (zB (zF rfl rfl (zF rfl rfl (zI rfl rfl rfl zBu ?_))))
  refine zE rfl rfl (zA (zC (zR rfl (fun hc1 => ?_) (fun hc1 => ?_))))
  ·refine zD (zB (zE rfl rfl (zA (zC (zZ (jQ (zU ?_)))))))
   exact jI rfl (fun a w ha => jY rfl rfl ha) (fun a w ha => ⟨by unfold szd; rw [if_neg hc0, if_pos hc1]; rfl, ha.grown nsl⟩)
  ·refine zQ (zO (zC (zD (zB (zE rfl rfl (zA (zC (zZ ?_))))))))
   exact jI rfl (fun a w ha => jY rfl rfl ha) (fun a w ha => ⟨by unfold szd; rw [if_neg hc0, if_neg hc1]; rfl, ha.grown nsl⟩)

theorem zD6 (p g n : Int) (wd : Bool) (w : World) : Calls Try.prog 59 #[.agg [.int .i64 p, .int .i64 g, .int .i64 n, .bool wd].toArray] w fun e w' => e = .returned (.int .i64 ((chkF ⟨p, g, n, wd⟩ : Nat) : Int)) ∧ Grew w w' [] := by
 refine enter (N := 23) [(0, .agg [.int .i64 p, .int .i64 g, .int .i64 n, .bool wd].toArray)] Try.func59 rfl Try.ntmps59 rfl rfl ?_
 refine zD (zB (jT rfl rfl ?_))
 intro b1
 refine zE rfl rfl (zA (zC (zD (zD (zB (wS 20 22 (.bool (!(btw p 1 4 && btw g 0 p && btw n 0 p))) ?_ ?_))))))
 ·refine zP rfl rfl F.fi49_0 F.ti3 ?_
  refine jE rfl rfl F.one3 ?_
  refine zW (v := .bool (btw p (1) (4))) (vs := [_, _, _]) rfl rfl F.ent52 (fun a w ha => vZ (p) (1) (4) w) ?_
  refine kO rfl rfl (zF rfl rfl (vK (t := 7) rfl (fun hg7 => ?_) (fun hg7 => ?_)))
  ·refine jJ rfl rfl rfl (jJ rfl rfl rfl (jJ rfl rfl rfl (jJ rfl rfl rfl (jJ rfl rfl rfl (jJ rfl rfl rfl (jD rfl rfl rfl (zF rfl rfl (vK (t := 15) rfl (fun hg15 => ?_) (fun hg15 => ?_)))))))))
   ·refine jJ rfl rfl rfl (jJ rfl rfl rfl (jJ rfl rfl rfl (jJ rfl rfl rfl (jJ rfl rfl rfl (jJ rfl rfl rfl (jD rfl rfl rfl (zA ?_)))))))
    exact xQ (.cons (by simp_all [look]) sbn) sbl
   ·refine zJ rfl rfl (zP rfl rfl F.fi49_2 F.ti3 ?_)
    refine zJ rfl rfl (jE rfl rfl F.one3 ?_)
    refine zJ rfl rfl (zP rfl rfl F.fi49_0 F.ti3 ?_)
    refine zJ rfl rfl (jE rfl rfl F.one3 ?_)
    refine zJ rfl rfl (zW (v := .bool (btw n (0) (p))) (vs := [_, _, _]) rfl rfl F.ent52 (fun a w ha => vZ (n) (0) (p) w) ?_)
    refine zJ rfl rfl (kO rfl rfl (zY rfl rfl rfl (zA ?_)))
    exact xQ (.cons (by simp_all []) sbn) sbl
  ·refine zJ rfl rfl (zP rfl rfl F.fi49_1 F.ti3 ?_)
   refine zJ rfl rfl (jE rfl rfl F.one3 ?_)
   refine zJ rfl rfl (zP rfl rfl F.fi49_0 F.ti3 ?_)
   refine zJ rfl rfl (jE rfl rfl F.one3 ?_)
   refine zJ rfl rfl (zW (v := .bool (btw g (0) (p))) (vs := [_, _, _]) rfl rfl F.ent52 (fun a w ha => vZ (g) (0) (p) w) ?_)
   refine zJ rfl rfl (kO rfl rfl (zY rfl rfl rfl (zF rfl rfl (vK (t := 15) rfl (fun hg15 => ?_) (fun hg15 => ?_)))))
   ·refine jJ rfl rfl rfl (jJ rfl rfl rfl (jJ rfl rfl rfl (jJ rfl rfl rfl (jJ rfl rfl rfl (jJ rfl rfl rfl (jD rfl rfl rfl (zA ?_)))))))
    exact xQ (.cons (by simp_all [look]) sbn) sbl
   ·refine zJ rfl rfl (zP rfl rfl F.fi49_2 F.ti3 ?_)
    refine zJ rfl rfl (jE rfl rfl F.one3 ?_)
    refine zJ rfl rfl (zP rfl rfl F.fi49_0 F.ti3 ?_)
    refine zJ rfl rfl (jE rfl rfl F.one3 ?_)
    refine zJ rfl rfl (zW (v := .bool (btw n (0) (p))) (vs := [_, _, _]) rfl rfl F.ent52 (fun a w ha => vZ (n) (0) (p) w) ?_)
    refine zJ rfl rfl (kO rfl rfl (zY rfl rfl rfl (zA ?_)))
    exact xQ (.cons (by simp_all [look]) sbn) sbl
 refine zA (zC (kV rfl (fun hc0 => ?_) (fun hc0 => ?_)))
 ·refine zD (zB (zE rfl rfl (zA (zC (zZ (zU ?_))))))
  exact jI rfl (fun a w ha => jY rfl rfl ha) (fun a w ha => ⟨by unfold chkF; rw [if_neg (by intro h; rw [h] at hc0; cases hc0)]; rfl, ha.grown nsl⟩)
 ·refine zQ (zC (zD (zB (zE rfl rfl (zA (zC (zZ ?_)))))))
  exact jI rfl (fun a w ha => jY rfl rfl ha) (fun a w ha => ⟨by unfold chkF; rw [if_pos (by simpa using hc0)]; rfl, ha.grown nsl⟩)

theorem xT {fA dA : Option Addr} {fc dc : Nat} {fs : List FltZ} {kiln : Int} {days : List Int} (hfl : fs.length < 1000000) (hdl : days.length < 1000000) (w : World) (hF : RdL FltZ.cells 4 w fA fs) (hD : RdL zcell 1 w dA days) : Calls Try.prog 43 #[.agg [.slice fA fs.length fc, .int .i64 kiln, .slice dA days.length dc].toArray] w fun e w' => e = .returned (.int .i64 ((chk fs kiln days : Nat) : Int)) ∧ Grew w w' [] := by
 refine enter (N := 52) [(0, .agg [.slice fA fs.length fc, .int .i64 kiln, .slice dA days.length dc].toArray)] Try.func43 rfl Try.ntmps43 rfl rfl ?_
 refine zD (zB (jT rfl rfl ?_))
 intro b1
 refine zE rfl rfl (zA (zC (zD (zD (zB (zP rfl rfl F.fi27_0 F.ti25 ?_))))))
 refine jE rfl rfl F.one25 ?_
 refine jX rfl rfl Try.underlying25 ?_
 refine zW (v := .int .i64 ((szd fs.length (1) (3) : Nat) : Int)) (vs := [_, _, _]) rfl rfl F.ent65 (fun a w ha => zFf (fs.length) (1) (3) w) ?_
 refine zE rfl rfl (zA (zC (zD (zB (zF rfl rfl (zI rfl rfl rfl jP ?_))))))
 refine zA (zC (zR rfl (fun hc0 => ?_) (fun hc0 => ?_)))
 ·refine zD (zB (zF rfl rfl (zE rfl rfl (zA (zC (zZ (zU ?_)))))))
  exact jI rfl (fun a w ha => jY rfl rfl ha) (fun a w ha => ⟨by unfold chk; rw [if_pos om], ha.grown nsl⟩)
 ·refine zQ (zC (zD (zD (zB (zP rfl rfl F.fi27_0 F.ti25 ?_)))))
  refine jE rfl rfl F.one25 ?_
  refine jX rfl rfl Try.underlying25 ?_
  refine zF rfl rfl (zA (zC (zV (xM (G := Nat) (fun k => k <= fs.length ∧ (fs.take k).any (fun f => chkF f != 0) = false) (fun k => fs.length - k) (fun k => [(1, .pointer (some ⟨b1, 0, none⟩)), (18, .slice fA fs.length fc), (19, .int .i64 (fs.length : Int)), (20, .int .i64 (k : Int))]) (fun k => [.blk b1 (.cells [.slice fA fs.length fc, .int .i64 kiln, .slice dA days.length dc].toArray 27 (0, 0))]) 0 ⟨Nat.zero_le _, rfl⟩ sbn sbl ?_))))
  intro k hk
  (try dsimp only at hk ⊢)
  refine zD (zB (zI rfl rfl rfl kG ?_))
  refine zA (zC (zD (zR rfl (fun hc1 => ?_) (fun hc1 => ?_))))
  ·have hk' : k < fs.length := by omega
   obtain ⟨bf, bo, rfl, hbf, hcf⟩ := hF om
   obtain ⟨f, hx⟩ : ∃ x, fs[k]? = some x := ⟨_, List.getElem?_eq_getElem hk'⟩
   obtain ⟨p, g, n, wd⟩ := f
   refine zQ (zC (zD (zV (zD (zB (qE (j := k) rfl rfl rfl Try.underlying25 F.ti49 rfl hk' ?_))))))
   refine qS (l := [.int .i64 p, .int .i64 g, .int .i64 n, .bool wd]) rfl rfl F.agg49 F.ti49 rfl (fun a w ha j u hu => ha.old (hcf k _ hx j u hu) hbf) ?_
   refine jA rfl F.ti49 ?_
   intro b5
   refine zK rfl rfl F.ti49 rfl ?_
   refine zA (zC (zD (zB (zX rfl rfl F.agg49 F.ti49 ?_))))
   refine zW (v := .int .i64 ((chkF ⟨p, g, n, wd⟩ : Nat) : Int)) (vs := [_]) rfl rfl F.ent59 (fun a w ha => zD6 p g n wd w) ?_
   refine zE rfl rfl (zA (zC (zD (zB (zF rfl rfl (zI rfl rfl rfl jP ?_))))))
   refine zA (zC (zR rfl (fun hc2 => ?_) (fun hc2 => ?_)))
   ·refine zD (zB (zF rfl rfl (zE rfl rfl (zA (zC (zZ (jQ (zU (zU (jQ (zU ?_)))))))))))
    exact jI rfl (fun a w ha => jY rfl rfl ha) (fun a w ha => ⟨by have h9 := zVj ⟨p, g, n, wd⟩; unfold chk; rw [if_neg om, if_pos (zQ9 hx (by simp; omega))]; rcases h9 with h9 | h9 <;> rw [h9] at hc2 ⊢ <;> simp at hc2 ⊢, ha.grown nsl⟩)
   ·refine zQ (zO (zC (zB (zI rfl rfl rfl (fun w => jO w (jF _ om om)) ?_))))
    refine zF rfl rfl (zA (qR (k + 1) ⟨by omega, zEd hx hk.2 (by simp; omega)⟩ tdo sbn sbl))
  ·obtain ⟨hk, hall⟩ := hk
   obtain rfl : k = fs.length := by omega
   rw [List.take_length] at hall
   refine kI (zT (zT (jK (zC (zD (zD (zB (zP rfl rfl F.fi27_1 F.ti3 ?_))))))))
   refine jE rfl rfl F.one3 ?_
   refine zW (v := .bool (btw kiln (0) (3))) (vs := [_, _, _]) rfl rfl F.ent52 (fun a w ha => vZ (kiln) (0) (3) w) ?_
   refine kO rfl rfl (zA (zC (kV rfl (fun hc3 => ?_) (fun hc3 => ?_))))
   ·refine zD (zB (zE rfl rfl (zA (zC (zZ (zU ?_))))))
    exact jI rfl (fun a w ha => jY rfl rfl ha) (fun a w ha => ⟨by unfold chk; rw [if_neg om, if_neg (by rw [hall]; simp), if_pos (by simpa using hc3)]; rfl, ha.grown nsl⟩)
   ·refine zQ (zC (zD (zD (zB (zP rfl rfl F.fi27_2 F.ti22 ?_)))))
    refine jE rfl rfl F.one22 ?_
    refine jX rfl rfl Try.underlying22 ?_
    refine zW (v := .int .i64 ((szd days.length (1) (4) : Nat) : Int)) (vs := [_, _, _]) rfl rfl F.ent65 (fun a w ha => zFf (days.length) (1) (4) w) ?_
    refine zE rfl rfl (zA (zC (zD (zB (zF rfl rfl (zI rfl rfl rfl jP ?_))))))
    refine zA (zC (zR rfl (fun hc4 => ?_) (fun hc4 => ?_)))
    ·refine zD (zB (zF rfl rfl (zE rfl rfl (zA (zC (zZ (zU ?_)))))))
     exact jI rfl (fun a w ha => jY rfl rfl ha) (fun a w ha => ⟨by unfold chk; rw [if_neg om, if_neg (by rw [hall]; simp), if_neg (by simpa using hc3), if_pos om], ha.grown nsl⟩)
    ·refine zQ (zC (zD (zD (zB (zP rfl rfl F.fi27_2 F.ti22 ?_)))))
     refine jE rfl rfl F.one22 ?_
     refine jX rfl rfl Try.underlying22 ?_
     refine zF rfl rfl (zA (zC (zV (xM (G := Nat) (fun k => k <= days.length ∧ (days.take k).any (fun n => !btw n 0 12) = false) (fun k => days.length - k) (fun k => [(1, .pointer (some ⟨b1, 0, none⟩)), (42, .slice dA days.length dc), (43, .int .i64 (days.length : Int)), (44, .int .i64 (k : Int))]) (fun k => [.blk b1 (.cells [.slice fA fs.length fc, .int .i64 kiln, .slice dA days.length dc].toArray 27 (0, 0))]) 0 ⟨Nat.zero_le _, rfl⟩ sbn sbl ?_))))
     intro k hk
     (try dsimp only at hk ⊢)
     refine zD (zB (zI rfl rfl rfl kG ?_))
     refine zA (zC (zD (zR rfl (fun hc5 => ?_) (fun hc5 => ?_))))
     ·have hk' : k < days.length := by omega
      obtain ⟨bd, bo, rfl, hbd, hcd⟩ := hD om
      obtain ⟨n, hx⟩ : ∃ x, days[k]? = some x := ⟨_, List.getElem?_eq_getElem hk'⟩
      refine zQ (zC (zD (zV (zD (zB (qE (j := k) rfl rfl rfl Try.underlying22 F.ti3 rfl hk' ?_))))))
      refine kQ (v := .int .i64 n) rfl rfl F.one3 (fun a w ha => ha.old (hcd k _ hx 0 _ rfl) hbd) ?_
      refine zE rfl rfl (zA (zC (zD (zB (zF rfl rfl (zW (v := .bool (btw n (0) (12))) (vs := [_, _, _]) rfl rfl F.ent52 (fun a w ha => vZ (n) (0) (12) w) ?_))))))
      refine kO rfl rfl (zA (zC (kV rfl (fun hc6 => ?_) (fun hc6 => ?_))))
      ·refine zD (zB (zE rfl rfl (zA (zC (zZ (jQ (zU (zU (jQ (zU ?_))))))))))
       exact jI rfl (fun a w ha => jY rfl rfl ha) (fun a w ha => ⟨by unfold chk; rw [if_neg om, if_neg (by rw [hall]; simp), if_neg (by simpa using hc3), if_neg om, if_pos (zQ9 hx hc6)]; rfl, ha.grown nsl⟩)
      ·refine zQ (zO (zC (zB (zI rfl rfl rfl (fun w => jO w (jF _ om om)) ?_))))
       refine zF rfl rfl (zA (qR (k + 1) ⟨by omega, zEd hx hk.2 hc6⟩ tdo sbn sbl))
     ·obtain ⟨hk, hall2⟩ := hk
      obtain rfl : k = days.length := by omega
      rw [List.take_length] at hall2
      refine kI (zT (zT (jK (zC (zD (zB (zE rfl rfl (zA (zC (zZ ?_))))))))))
      exact jI rfl (fun a w ha => jY rfl rfl ha) (fun a w ha => ⟨by unfold chk; rw [if_neg om, if_neg (by rw [hall]; simp), if_neg (by simpa using hc3), if_neg om, if_neg (by rw [hall2]; simp)]; rfl, ha.grown nsl⟩)

end Go.Proofs.Yteppiphdbondeaa.N
namespace Go.Proofs.Yteppiphdbondeaa.N
open Go Go.RowKit Go.Proofs
set_option linter.unusedSectionVars false
structure Oc where
 f : Nat
 w : Nat
 is : Bool
 deriving DecidableEq, Inhabited
def Oc.cells (o : Oc) : List Value := [.int .i64 (o.f : Int), .int .i64 (o.w : Int), .bool o.is]
def Oc.val (o : Oc) : Value := .agg o.cells.toArray
def noOc : Oc := ⟨0, 0, false⟩
def cless (a b c d : Nat) : Bool := decide (a < c ∨ (a = c ∧ b < d))
def oless (x o : Oc) : Bool := x.is && (!o.is || cless x.f x.w o.f o.w)
def lst2 (o x : Oc) : Oc := if oless x o then x else o
def spF (acts : List Nat) : Nat := if acts.any (· == 3) then 1 else 0
def spW (acts : List Nat) : Nat := acts.countP (· == 2)
section
variable (alw : Nat -> List Nat -> Bool) (las : Mor -> Bool) (fs : List Flt) (kiln : Nat) (days : List Nat)
def stpO (rec : Mor -> Oc) (d : Nat) (m : Mor) (l : List Nat) : Oc :=
 if alw d l = false then noOc
 else if (dayE fs kiln m l (days.getD d 0)).1 ≠ 0 then noOc
 else ⟨(rec (dayE fs kiln m l (days.getD d 0)).2).f + spF l, (rec (dayE fs kiln m l (days.getD d 0)).2).w + spW l, (rec (dayE fs kiln m l (days.getD d 0)).2).is⟩
def bstO : Nat -> Mor -> Oc
 | 0, m => ⟨0, 0, las m⟩
 | n + 1, m => (exts [] fs.length).foldl (fun o l => lst2 o (stpO alw fs kiln days (bstO n) (days.length - (n + 1)) m l)) noOc
end
theorem zE6 (l : List Nat) : spF l <= 1 := by unfold spF; split <;> omega
theorem zHb (l : List Nat) : spW l <= l.length := List.countP_le_length
theorem zFl {o x : Oc} {F W : Nat} (h1 : o.f <= F ∧ o.w <= W) (h2 : x.f <= F ∧ x.w <= W) : (lst2 o x).f <= F ∧ (lst2 o x).w <= W := by unfold lst2; split <;> assumption
theorem zNn {F W : Nat} {g : List Nat -> Oc} (hg : ∀ l, l.length <= 3 -> (g l).f <= F ∧ (g l).w <= W) : ∀ (ls : List (List Nat)) (o : Oc), (∀ l ∈ ls, l.length <= 3) -> o.f <= F ∧ o.w <= W -> (ls.foldl (fun o l => lst2 o (g l)) o).f <= F ∧ (ls.foldl (fun o l => lst2 o (g l)) o).w <= W
 | [], _, _, h => h
 | l :: ls, o, hl, h => zNn hg ls _ (fun x hx => hl x (by simp [hx])) (zFl h (hg l (hl l (by simp))))
theorem zNb {alw : Nat -> List Nat -> Bool} {las : Mor -> Bool} {fs : List Flt} {kiln : Nat} {days : List Nat} (h3 : fs.length <= 3) : ∀ (n : Nat) (m : Mor), (bstO alw las fs kiln days n m).f <= n ∧ (bstO alw las fs kiln days n m).w <= 3 * n
 | 0, _ => by simp [bstO]
 | n + 1, m => by
  unfold bstO
  letI : Sys := nSys Try.prog (Cp 0 131 msgM) 0
  refine zNn (fun l hl => ?_) _ _ (fun l hl => by have := yM _ _ l hl; simp at this; omega) (by simp [noOc])
  unfold stpO
  split
  ·simp [noOc]
  ·split
   ·simp [noOc]
   ·have := zNb (alw := alw) (las := las) (kiln := kiln) (days := days) h3 n (dayE fs kiln m l (days.getD (days.length - (n + 1)) 0)).2
    have := zE6 l
    have := zHb l
    dsimp only
    omega
theorem co107 : Try.prog.cellsOf 107 = 5 := by kernel_rfl
theorem co109 : Try.prog.cellsOf 109 = 2 := by kernel_rfl
theorem co111 : Try.prog.cellsOf 111 = 3 := by kernel_rfl
theorem co4 : Try.prog.cellsOf 4 = 1 := by kernel_rfl
theorem zU1 (b : Bool) (d : Nat) : Try.prog.keyLits (d + 1) 4 [.bool b] = some [.bool b] := by
 unfold Program.keyLits
 rw [Try.underlying4]
abbrev Spot : Type := Mor × Nat
def Spot.cells (s : Spot) : List Value := s.1.cells ++ [.int .i64 (s.2 : Int)]
def Spot.val (s : Spot) : Value := .agg s.cells.toArray
theorem spotLaw : WideMaps.KeyLaw Try.prog 107 := deep_law (m := 4) (by omega) (by kernel_rfl) (by kernel_rfl) (by rw [Try.underlying107])
def Spot.ok (s : Spot) : Prop := MOk s.1 ∧ s.2 < 2 ^ 63
theorem key107 {s : Spot} (h : s.ok) : ∃ x, keyOf Try.prog 107 s.val = some x := by
 obtain ⟨m, n⟩ := s
 obtain ⟨hm, hn⟩ := h
 dsimp only at hm hn
 obtain ⟨L, hL⟩ := zRf hm (Try.prog.types.size - 4 + 1)
 obtain ⟨a, b, c, e, h1, h2, h3, h4⟩ := hm.lt
 unfold keyOf
 rw [Try.underlying107]
 have hk : Try.prog.keyType 107 = true := by kernel_rfl
 simp only [hk, Bool.true_and]
 have hf : (Spot.val (m, n)).formed Try.prog 107 = true := by
  rw [e]
  simp [Value.formed, Spot.val, Try.underlying107, co107, Spot.cells, Mor.cells]
 rw [if_pos hf, tszC]
 generalize Try.prog.types.size - 4 = D at hL ⊢
 have : (Spot.val (m, n)).cells.toList = Spot.cells (m, n) := rfl
 rw [this]
 have hlen : m.cells.length = 4 := by rw [e]; rfl
 have : ∃ L, Try.prog.keyLits (D + 1 + 1 + 1 + 1 + 1) 107 (Spot.cells (m, n)) = some L := by
  conv => arg 1; ext L; lhs; unfold Program.keyLits
  rw [Try.underlying107]
  have e1 : (Spot.cells (m, n)).length = 5 := by simp [Spot.cells, hlen]
  have e2 : (Spot.cells (m, n)).take 4 = m.cells := by simp [Spot.cells, <- hlen]
  have e3 : (Spot.cells (m, n)).drop 4 = [.int .i64 (n : Int)] := by simp [Spot.cells, <- hlen]
  simp [co107, co95, co3, e1, e2, e3, hL, zBe hn]
 obtain ⟨L, hL⟩ := this
 rw [hL]
 exact ⟨_, rfl⟩
theorem zR1 {s t : Spot} (h : s.val = t.val) : s = t := by
 obtain ⟨m, i⟩ := s
 obtain ⟨n, j⟩ := t
 have h1 : (Spot.cells (m, i)).toArray = (Spot.cells (n, j)).toArray := Value.agg.inj h
 have h2 : Spot.cells (m, i) = Spot.cells (n, j) := by simpa using congrArg Array.toList h1
 simp only [Spot.cells] at h2
 have h3 := List.append_inj' h2 rfl
 have hw : i = j := by have := h3.2; simp at this; omega
 have hm : m = n := zNj (by unfold Mor.val; rw [h3.1])
 rw [hw, hm]
theorem zUt (s : Spot) : Np s.val := Np.ints (by
 intro x hx
 simp only [Spot.cells, Mor.cells, List.mem_append, List.mem_map, List.mem_singleton] at hx
 rcases hx with (⟨y, _, rfl⟩ | rfl) | rfl <;> exact .int _ _)
def KS : KT Try.prog 107 Spot := ⟨Spot.val, Spot.ok, spotLaw, fun _ h => key107 h, fun _ _ h => zR1 h, zUt⟩
theorem zEn {P : Program} {k : TypeId} {m : Nat} (hm : m <= 10000) (hk : P.keyTypeAt m k = true) (hw : (match P.underlying k with | some (.array _ _) | some (.struct _) => true | _ => false) = true) (hgt : P.eqGuardType P.depth k = false)
  (law : WideMaps.KeyLaw P k) {xs ys : Array Value} {a b : Go.Lit} (ha : keyOf P k (.agg xs) = some a) (hb : keyOf P k (.agg ys) = some b) (x y : Operand) (w : World) :
  ∃ r, (do eqGuard .neq k x y (.agg xs) (.agg ys); binOp .neq k (.agg xs) (.agg ys) : Sem Value).run P w = .ok (.bool r) w ∧ (r = true ↔ Value.agg xs ≠ .agg ys) := by
 obtain ⟨r, hr, hiff⟩ := run_equal_deep (P := P) w (m := m) hm (k := k) hk hw ha hb
 have hg : (eqGuard .neq k x y (.agg xs) (.agg ys)).run P w = .ok () w := by
  have hp : (program : Sem Program).run P w = .ok P w := rfl
  simp [eqGuard, Sem.run_bind, hp, hgt]
 have hb' : (binOp .neq k (.agg xs) (.agg ys)).run P w = .ok (.bool (!r)) w := by
  show (do pure (.bool (!(<- Op.equal k (.agg xs) (.agg ys)))) : Sem Value).run P w = _
  simp only [Sem.run_bind, hr, Result.andThen_ok, Sem.run_pure]
 refine ⟨!r, by simp only [Sem.run_bind, hg, Result.andThen_ok, hb'], ?_⟩
 have e1 : r = true ↔ Value.agg xs = .agg ys := by
  rw [hiff]
  constructor
  ·intro e
   exact law.inj (by rw [ha, e]) hb
  ·intro e
   rw [e] at ha
   rw [ha] at hb
   exact Option.some.inj hb
 cases r with
 | true => simp [e1.1 rfl]
 | false =>
  have : Value.agg xs ≠ .agg ys := fun e => by have := e1.2 e; cases this
  simp [this]
theorem key109 {a b : Nat} (ha : a < 2 ^ 63) (hb : b < 2 ^ 63) : ∃ x, keyOf Try.prog 109 (.agg [.int .i64 (a : Int), .int .i64 (b : Int)].toArray) = some x := by
 unfold keyOf
 rw [Try.underlying109]
 have hk : Try.prog.keyType 109 = true := by kernel_rfl
 simp only [hk, Bool.true_and]
 have hf : (Value.agg [.int .i64 (a : Int), .int .i64 (b : Int)].toArray).formed Try.prog 109 = true := by simp [Value.formed, Try.underlying109, co109]
 rw [if_pos hf, tszC]
 generalize Try.prog.types.size - 4 = D
 have : ∃ L, Try.prog.keyLits (D + 1 + 1 + 1 + 1 + 1) 109 (Value.agg [.int .i64 (a : Int), .int .i64 (b : Int)].toArray).cells.toList = some L := by
  conv => arg 1; ext L; lhs; unfold Program.keyLits
  rw [Try.underlying109]
  simp [co109, co3, Value.cells, zBe ha, zBe hb]
 obtain ⟨L, hL⟩ := this
 rw [hL]
 exact ⟨_, rfl⟩
theorem key111 {o : Oc} (ha : o.f < 2 ^ 63) (hb : o.w < 2 ^ 63) : ∃ x, keyOf Try.prog 111 o.val = some x := by
 unfold keyOf
 rw [Try.underlying111]
 have hk : Try.prog.keyType 111 = true := by kernel_rfl
 simp only [hk, Bool.true_and]
 have hf : o.val.formed Try.prog 111 = true := by simp [Oc.val, Oc.cells, Value.formed, Try.underlying111, co111]
 rw [if_pos hf, tszC]
 generalize Try.prog.types.size - 4 = D
 have h9 : ∃ L, Try.prog.keyLits (D + 1 + 1 + 1 + 1) 109 [.int .i64 (o.f : Int), .int .i64 (o.w : Int)] = some L := by
  conv => arg 1; ext L; lhs; unfold Program.keyLits
  rw [Try.underlying109]
  simp [co109, co3, zBe ha, zBe hb]
 obtain ⟨L9, hL9⟩ := h9
 have : ∃ L, Try.prog.keyLits (D + 1 + 1 + 1 + 1 + 1) 111 o.val.cells.toList = some L := by
  conv => arg 1; ext L; lhs; unfold Program.keyLits
  rw [Try.underlying111]
  simp [co111, co109, co4, Oc.val, Oc.cells, Value.cells, hL9, zU1]
 obtain ⟨L, hL⟩ := this
 rw [hL]
 exact ⟨_, rfl⟩
theorem costLaw : WideMaps.KeyLaw Try.prog 109 := deep_law (m := 4) (by omega) (by kernel_rfl) (by kernel_rfl) (by rw [Try.underlying109])
theorem ocLaw : WideMaps.KeyLaw Try.prog 111 := deep_law (m := 4) (by omega) (by kernel_rfl) (by kernel_rfl) (by rw [Try.underlying111])
theorem zK6 {a b c d : Nat} (ha : a < 2 ^ 63) (hb : b < 2 ^ 63) (hc : c < 2 ^ 63) (hd : d < 2 ^ 63) (x y : Operand) (w : World) :
  (do eqGuard .neq 109 x y (.agg [.int .i64 (a : Int), .int .i64 (b : Int)].toArray) (.agg [.int .i64 (c : Int), .int .i64 (d : Int)].toArray); binOp .neq 109 (.agg [.int .i64 (a : Int), .int .i64 (b : Int)].toArray) (.agg [.int .i64 (c : Int), .int .i64 (d : Int)].toArray) : Sem Value).run Try.prog w = .ok (.bool (decide (¬ (a = c ∧ b = d)))) w := by
 obtain ⟨k1, hk1⟩ := key109 ha hb
 obtain ⟨k2, hk2⟩ := key109 hc hd
 obtain ⟨r, h1, h2⟩ := zEn (P := Try.prog) (m := 4) om (k := 109) kr (by rw [Try.underlying109]) kr costLaw hk1 hk2 x y w
 have e : r = decide (¬ (a = c ∧ b = d)) := by
  rw [Bool.eq_iff_iff, h2, decide_eq_true_iff]
  simp
  omega
 rw [<- e]
 exact h1
theorem zOi {o p : Oc} (ha : o.f < 2 ^ 63) (hb : o.w < 2 ^ 63) (hc : p.f < 2 ^ 63) (hd : p.w < 2 ^ 63) (x y : Operand) (w : World) : (do eqGuard .neq 111 x y o.val p.val; binOp .neq 111 o.val p.val : Sem Value).run Try.prog w = .ok (.bool (decide (o ≠ p))) w := by
 obtain ⟨k1, hk1⟩ := key111 ha hb
 obtain ⟨k2, hk2⟩ := key111 hc hd
 obtain ⟨r, h1, h2⟩ := zEn (P := Try.prog) (m := 4) om (k := 111) kr (by rw [Try.underlying111]) kr ocLaw hk1 hk2 x y w
 have : o.val = p.val ↔ o = p := by
  constructor
  ·intro h
   obtain ⟨f, g, i⟩ := o
   obtain ⟨f', g', i'⟩ := p
   simp [Oc.val, Oc.cells] at h
   obtain ⟨e1, e2, e3⟩ := h
   simp
   exact ⟨by omega, by omega, e3⟩
  ·rintro rfl; rfl
 have e : r = decide (o ≠ p) := by
  rw [Bool.eq_iff_iff, h2, decide_eq_true_iff]
  exact not_congr this
 rw [<- e]
 exact h1
instance TB.cost (f g : Int) (u : Value) : TB (.agg [.int .i64 f, .int .i64 g].toArray) u := TB.agg (by
 intro x hx
 simp at hx
 rcases hx with rfl | rfl <;> exact .int _ _) u
instance TB.oc (o : Oc) (u : Value) : TB o.val u := TB.agg (by
 intro x hx
 simp [Oc.cells] at hx
 rcases hx with rfl | rfl | rfl
 ·exact .int _ _
 ·exact .int _ _
 ·exact .bool _) u
theorem zUj {acts : List Nat} {k x : Nat} (hx : acts[k]? = some x) : spF (acts.take (k + 1)) = (if x = 3 then 1 else spF (acts.take k)) ∧ spW (acts.take (k + 1)) = spW (acts.take k) + (if x = 2 then 1 else 0) := by
 rw [List.take_add_one, hx]
 unfold spF spW
 constructor
 ·by_cases h : x = 3
  ·simp [h]
  ·simp [h]
 ·by_cases h : x = 2
  ·simp [h]
  ·simp [h]
end Go.Proofs.Yteppiphdbondeaa.N
namespace Go.Proofs.Yteppiphdbondeaa.N
open Go Go.RowKit Go.Proofs
set_option linter.unusedSectionVars false
variable [I : Sys]
theorem F.agg109 : aggB Try.prog 109 = true := by unfold aggB; rw [Try.underlying109]
theorem F.ent106 : Enters Try.prog 106 := jG Try.func106 rfl (by kernel_rfl)
theorem F.fi109_0 : FI Try.prog 109 0 3 0 := ⟨_, _, Try.underlying109, rfl, rfl, rfl⟩
theorem F.fi109_1 : FI Try.prog 109 1 3 1 := ⟨_, _, Try.underlying109, rfl, rfl, rfl⟩
theorem F.fi111_0 : FI Try.prog 111 0 109 0 := ⟨_, _, Try.underlying111, rfl, rfl, rfl⟩
theorem F.fi111_1 : FI Try.prog 111 1 4 2 := ⟨_, _, Try.underlying111, rfl, rfl, rfl⟩
theorem F.pl101 : Places Try.prog 101 [(0, 3), (3, 1), (4, 1), (5, 1)] := .inl ⟨_, Try.underlying101, by kernel_rfl⟩
theorem F.ti101 : TI Try.prog 101 (.agg [.slice none 0 0, .int .i64 0, .slice none 0 0, .nilFunc, .nilFunc, .map none].toArray) 6 80 := TI.of (by kernel_rfl)
theorem F.ti109 : TI Try.prog 109 (.agg [.int .i64 0, .int .i64 0].toArray) 2 16 := TI.of (by kernel_rfl)
theorem zDs (fA dA : Option Addr) (fc nd dc kiln : Nat) (fs : List Flt) (w : World) : Calls Try.prog 48 #[.agg (CA fA fs.length fc kiln dA nd dc).toArray] w fun e w' => ∃ b km, e = .returned (.pointer (some ⟨b, 0, none⟩)) ∧ Grew w w' [.blk b (.cells [.slice fA fs.length fc, .int .i64 (kiln : Int), .slice dA nd dc, .func (.func 66) [].toArray [].toArray, .func (.func 67) [].toArray [].toArray, .map (some km)].toArray 101 (0, 0)), .blk km (KS.obj [])] := by
 refine enter (N := 7) [(0, .agg (CA fA fs.length fc kiln dA nd dc).toArray)] Try.func48 rfl Try.ntmps48 rfl rfl ?_
 refine zD (zB (jT rfl rfl ?_))
 intro b1
 refine zE rfl rfl (zA (zC (zD (zB (zX rfl rfl F.agg77 F.ti77 ?_)))))
 refine zCt rfl ?_
 intro b4
 refine kD (vs := [(0, _), (1, _), (2, _), (3, _)]) (l' := [_, _, _, _, _, _]) rfl rfl F.ti101 F.pl101 (.cons rfl rfl (.cons rfl rfl (.cons rfl rfl (.cons rfl rfl (.nil _))))) rfl ?_
 refine jT rfl rfl ?_
 intro b6
 refine zE rfl rfl (zA (zC (zZ ?_)))
 exact jI rfl (fun a w ha => jY rfl rfl ha) (fun a w ha => ⟨_, _, rfl, ha.grown (.cons_cons _ (.cons_cons _ nsl))⟩)

theorem zRd (d : Int) (A : Option Addr) (n c : Nat) (w : World) : Calls Try.prog 66 #[.int .i64 d, .slice A n c] w fun e w' => e = .returned (.bool true) ∧ Grew w w' [] := by
 refine enter (N := 5) [(0, .int .i64 d), (1, .slice A n c)] Try.func66 rfl Try.ntmps66 rfl rfl ?_
 refine zD (zB (zE rfl rfl (zA (zC (zD (zB (zE rfl rfl (zA (zC (zZ ?_))))))))))
 exact jI rfl (fun a w ha => jY rfl rfl ha) (fun a w ha => ⟨rfl, ha.grown nsl⟩)

theorem zPy (z0 z1 z2 zw : Nat) (w : World) : Calls Try.prog 67 #[.agg (V4 z0 z1 z2 zw).toArray] w fun e w' => e = .returned (.bool true) ∧ Grew w w' [] := by
 refine enter (N := 3) [(0, .agg (V4 z0 z1 z2 zw).toArray)] Try.func67 rfl Try.ntmps67 rfl rfl ?_
 refine zD (zB (jT rfl rfl ?_))
 intro b1
 refine zE rfl rfl (zA (zC (zD (zB (zE rfl rfl (zA (zC (zZ ?_))))))))
 exact jI rfl (fun a w ha => jY rfl rfl ha) (fun a w ha => ⟨rfl, ha.grown nsl⟩)

theorem zNm (aA : Option Addr) (ac : Nat) (acts : List Nat) (hl : acts.length <= 3) (w : World) (hA : RdL ncell 1 w aA acts) : Calls Try.prog 73 #[.slice aA acts.length ac] w fun e w' => e = .returned (.agg [.int .i64 ((spF acts : Nat) : Int), .int .i64 ((spW acts : Nat) : Int)].toArray) ∧ Grew w w' [] := by
 refine enter (N := 24) [(0, .slice aA acts.length ac)] Try.func73 rfl Try.ntmps73 rfl rfl ?_
 refine zD (zB (jA rfl F.ti109 ?_))
 intro b2
 refine zA (zC (zD (zB (jA rfl F.ti109 ?_))))
 intro b3
 refine zA (zC (zD (zD (zB (zF rfl rfl (jX rfl rfl Try.underlying22 ?_))))))
 refine zF rfl rfl (zA (zC (zV (xM (G := Nat) (fun k => k <= acts.length) (fun k => acts.length - k) (fun k => [(2, .pointer (some ⟨b2, 0, none⟩)), (3, .pointer (some ⟨b3, 0, none⟩)), (6, .slice aA acts.length ac), (7, .int .i64 (acts.length : Int)), (8, .int .i64 (k : Int))]) (fun k => [.blk b3 (.cells [.int .i64 ((spF (acts.take k) : Nat) : Int), .int .i64 ((spW (acts.take k) : Nat) : Int)].toArray 109 (0, 0)), .blk b2 (.cells [.int .i64 0, .int .i64 0].toArray 109 (0, 0))]) 0 (Nat.zero_le _) sbn sbl ?_))))
 intro k hk
 (try dsimp only at hk ⊢)
 refine zD (zB (zI rfl rfl rfl kG ?_))
 refine zA (zC (zD (zR rfl (fun hc0 => ?_) (fun hc0 => ?_))))
 ·have hk' : k < acts.length := by omega
  obtain ⟨b, o, rfl, hb, hcell⟩ := hA om
  obtain ⟨x, hx⟩ : ∃ x, acts[k]? = some x := ⟨_, List.getElem?_eq_getElem hk'⟩
  obtain ⟨hf1, hw1⟩ := zUj hx
  have hwl := zHb (acts.take k)
  rw [List.length_take] at hwl
  refine zQ (zC (zD (zV (zD (zB (qE (j := k) rfl rfl rfl Try.underlying22 F.ti3 rfl hk' ?_))))))
  refine kQ (v := .int .i64 (x : Int)) rfl rfl F.one3 (fun a w ha => ha.old (hcell k x hx 0 _ rfl) hb) ?_
  refine zE rfl rfl (zA (zC (zD (zB (zF rfl rfl (zA (zC (zV (zD (zB (zI rfl rfl rfl kC ?_)))))))))))
  refine zE rfl rfl (zA (zC (zR rfl (fun hc1 => ?_) (fun hc1 => ?_))))
  ·refine zB (zP rfl rfl F.fi109_0 F.ti3 ?_)
   refine zK rfl rfl F.ti3 rfl ?_
   refine zA (zO (zO (zC (zB (zI rfl rfl rfl (fun w => jO w (jF _ om om)) ?_)))))
   refine zF rfl rfl (zA (qR (k + 1) om tdo (by (try dsimp only); repeat (first | exact Sub.nil _ | refine Sub.cons rfl ?_)) (by (try dsimp only); rw [hf1, hw1]; rw [if_pos om, if_neg om]; simp only [Nat.add_zero]; repeat (first | exact List.Sublist.refl _ | exact List.nil_sublist _ | refine List.Sublist.cons_cons _ ?_ | refine List.Sublist.cons _ ?_))))
  ·refine zD (zB (zI rfl rfl rfl kC ?_))
   refine zE rfl rfl (zA (zC (zR rfl (fun hc2 => ?_) (fun hc2 => ?_))))
   ·refine zB (zP rfl rfl F.fi109_1 F.ti3 ?_)
    refine jE rfl rfl F.one3 ?_
    refine zI (v := .int .i64 ((spW (acts.take k) + 1 : Nat) : Int)) rfl rfl rfl (fun w => jO w (by rw [jF _ om om]; omega)) ?_
    refine zP rfl rfl F.fi109_1 F.ti3 ?_
    refine zK rfl rfl F.ti3 rfl ?_
    refine zA (zO (zO (zC (zB (zI rfl rfl rfl (fun w => jO w (jF _ om om)) ?_)))))
    refine zF rfl rfl (zA (qR (k + 1) om tdo (by (try dsimp only); repeat (first | exact Sub.nil _ | refine Sub.cons rfl ?_)) (by (try dsimp only); rw [hf1, hw1]; rw [if_neg om, if_pos om]; repeat (first | exact List.Sublist.refl _ | exact List.nil_sublist _ | refine List.Sublist.cons_cons _ ?_ | refine List.Sublist.cons _ ?_))))
   ·refine zQ (zO (zO (zC (zB (zI rfl rfl rfl (fun w => jO w (jF _ om om)) ?_)))))
    refine zF rfl rfl (zA (qR (k + 1) om tdo (by (try dsimp only); repeat (first | exact Sub.nil _ | refine Sub.cons rfl ?_)) (by (try dsimp only); rw [hf1, hw1]; rw [if_neg om, if_neg om]; simp only [Nat.add_zero]; repeat (first | exact List.Sublist.refl _ | exact List.nil_sublist _ | refine List.Sublist.cons_cons _ ?_ | refine List.Sublist.cons _ ?_))))
 ·obtain rfl : k = acts.length := by omega
  simp only [List.take_length]
  refine kI (zT (zT (jK (zC (zD (zB (zX rfl rfl F.agg109 F.ti109 ?_)))))))
  refine zK rfl rfl F.ti109 rfl ?_
  refine zA (zC (zZ ?_))
  exact jI rfl (fun a w ha => by exact xU (ha := ha) rfl rfl F.agg109 F.ti109 rfl) (fun a w ha => ⟨rfl, ha.grown nsl⟩)

theorem zO2 (p q r s : Nat) (hp : p < 2 ^ 63) (hq : q < 2 ^ 63) (hr : r < 2 ^ 63) (hs : s < 2 ^ 63) (w : World) : Calls Try.prog 106 #[.agg [.int .i64 (p : Int), .int .i64 (q : Int)].toArray, .agg [.int .i64 (r : Int), .int .i64 (s : Int)].toArray] w fun e w' => e = .returned (.bool (cless p q r s)) ∧ Grew w w' [] := by
 refine enter (N := 29) [(0, .agg [.int .i64 (p : Int), .int .i64 (q : Int)].toArray), (1, .agg [.int .i64 (r : Int), .int .i64 (s : Int)].toArray)] Try.func106 rfl Try.ntmps106 rfl rfl ?_
 refine zD (zB (jT rfl rfl ?_))
 intro b2
 refine jT rfl rfl ?_
 intro b3
 refine zE rfl rfl (zA (zC (zD (zB (wS 24 28 (.bool (cless p q r s)) ?_ ?_)))))
 ·refine zX rfl rfl F.agg109 F.ti109 ?_
  refine zX rfl rfl F.agg109 F.ti109 ?_
  refine zNg rfl rfl rfl (zK6 hp hq hr hs _ _) ?_
  refine zF rfl rfl (wA (t := 8) rfl (fun hg8 => ?_) (fun hg8 => ?_))
  ·refine zJ rfl rfl (zP rfl rfl F.fi109_0 F.ti3 ?_)
   refine zJ rfl rfl (jE rfl rfl F.one3 ?_)
   refine zJ rfl rfl (zP rfl rfl F.fi109_0 F.ti3 ?_)
   refine zJ rfl rfl (jE rfl rfl F.one3 ?_)
   refine zJ rfl rfl (zI rfl rfl rfl kG ?_)
   refine zJ rfl rfl (zF rfl rfl (wA (t := 14) rfl (fun hg14 => ?_) (fun hg14 => ?_)))
   ·refine jJ rfl rfl rfl (jJ rfl rfl rfl (jJ rfl rfl rfl (jJ rfl rfl rfl (jJ rfl rfl rfl (jJ rfl rfl rfl (kP rfl rfl rfl (kP rfl rfl rfl (kP rfl rfl rfl (kP rfl rfl rfl (kP rfl rfl rfl (jJ rfl rfl rfl (zJ rfl rfl (jD rfl rfl rfl (jD rfl rfl rfl (zA ?_)))))))))))))))
    exact xQ (.cons (by unfold cless; simp_all [look] <;> (try rw [Bool.eq_iff_iff]) <;> (try simp) <;> omega) sbn) sbl
   ·refine zJ rfl rfl (zP rfl rfl F.fi109_0 F.ti3 ?_)
    refine zJ rfl rfl (jE rfl rfl F.one3 ?_)
    refine zJ rfl rfl (zP rfl rfl F.fi109_0 F.ti3 ?_)
    refine zJ rfl rfl (jE rfl rfl F.one3 ?_)
    refine zJ rfl rfl (zI rfl rfl rfl kC ?_)
    refine zJ rfl rfl (zF rfl rfl (wA (t := 20) rfl (fun hg20 => ?_) (fun hg20 => ?_)))
    ·refine zJ rfl rfl (zP rfl rfl F.fi109_1 F.ti3 ?_)
     refine zJ rfl rfl (jE rfl rfl F.one3 ?_)
     refine zJ rfl rfl (zP rfl rfl F.fi109_1 F.ti3 ?_)
     refine zJ rfl rfl (jE rfl rfl F.one3 ?_)
     refine zJ rfl rfl (zI rfl rfl rfl kG ?_)
     refine zJ rfl rfl (jD rfl rfl rfl (zJ rfl rfl (zY rfl rfl rfl (jD rfl rfl rfl (zA ?_)))))
     exact xQ (.cons (by unfold cless; simp_all [look] <;> (try rw [Bool.eq_iff_iff]) <;> (try simp) <;> omega) sbn) sbl
    ·refine jJ rfl rfl rfl (jJ rfl rfl rfl (jJ rfl rfl rfl (jJ rfl rfl rfl (jJ rfl rfl rfl (zJ rfl rfl (zY rfl rfl rfl (zJ rfl rfl (zY rfl rfl rfl (jD rfl rfl rfl (zA ?_))))))))))
     exact xQ (.cons (by unfold cless; simp_all [look] <;> (try rw [Bool.eq_iff_iff]) <;> (try simp) <;> omega) sbn) sbl
  ·refine jJ rfl rfl rfl (jJ rfl rfl rfl (jJ rfl rfl rfl (jJ rfl rfl rfl (jJ rfl rfl rfl (jJ rfl rfl rfl (kP rfl rfl rfl (kP rfl rfl rfl (kP rfl rfl rfl (kP rfl rfl rfl (kP rfl rfl rfl (kP rfl rfl rfl (kP rfl rfl rfl (kP rfl rfl rfl (kP rfl rfl rfl (kP rfl rfl rfl (kP rfl rfl rfl (kP rfl rfl rfl (jJ rfl rfl rfl (zY rfl rfl rfl (zA ?_))))))))))))))))))))
   exact xQ (.cons (by unfold cless; simp_all [look] <;> (try rw [Bool.eq_iff_iff]) <;> (try simp) <;> omega) sbn) sbl
 refine zE rfl rfl (zA (zC (zZ ?_)))
 exact jI rfl (fun a w ha => jY rfl rfl ha) (fun a w ha => ⟨rfl, ha.grown nsl⟩)

theorem zUw (x o : Oc) (h1 : x.f < 2 ^ 63) (h2 : x.w < 2 ^ 63) (h3 : o.f < 2 ^ 63) (h4 : o.w < 2 ^ 63) (w : World) : Calls Try.prog 83 #[.agg [.int .i64 (x.f : Int), .int .i64 (x.w : Int), .bool x.is].toArray, .agg [.int .i64 (o.f : Int), .int .i64 (o.w : Int), .bool o.is].toArray] w fun e w' => e = .returned (.bool (oless x o)) ∧ Grew w w' [] := by
 refine enter (N := 19) [(0, .agg [.int .i64 (x.f : Int), .int .i64 (x.w : Int), .bool x.is].toArray), (1, .agg [.int .i64 (o.f : Int), .int .i64 (o.w : Int), .bool o.is].toArray)] Try.func83 rfl Try.ntmps83 rfl rfl ?_
 refine zD (zB (jT rfl rfl ?_))
 intro b2
 refine jT rfl rfl ?_
 intro b3
 refine zE rfl rfl (zA (zC (zD (zB (wS 14 18 (.bool (oless x o)) ?_ ?_)))))
 ·refine zP rfl rfl F.fi111_1 F.ti4 ?_
  refine jE rfl rfl F.one4 ?_
  refine zF rfl rfl (vK (t := 7) rfl (fun hg7 => ?_) (fun hg7 => ?_))
  ·refine zJ rfl rfl (zP rfl rfl F.fi111_1 F.ti4 ?_)
   refine zJ rfl rfl (jE rfl rfl F.one4 ?_)
   refine zJ rfl rfl (kO rfl rfl (zJ rfl rfl (zF rfl rfl (vK (t := 11) rfl (fun hg11 => ?_) (fun hg11 => ?_)))))
   ·refine jJ rfl rfl rfl (jJ rfl rfl rfl (jJ rfl rfl rfl (jJ rfl rfl rfl (jJ rfl rfl rfl (zJ rfl rfl (jD rfl rfl rfl (jD rfl rfl rfl (zA ?_))))))))
    exact xQ (.cons (by unfold oless; simp_all [look]) sbn) sbl
   ·refine zJ rfl rfl (zP rfl rfl F.fi111_0 F.ti109 ?_)
    refine zJ rfl rfl (zX rfl rfl F.agg109 F.ti109 ?_)
    refine zJ rfl rfl (zP rfl rfl F.fi111_0 F.ti109 ?_)
    refine zJ rfl rfl (zX rfl rfl F.agg109 F.ti109 ?_)
    refine zJ rfl rfl (zW (v := .bool (cless x.f x.w o.f o.w)) (vs := [_, _]) rfl rfl F.ent106 (fun a w ha => zO2 x.f x.w o.f o.w h1 h2 h3 h4 w) ?_)
    refine zJ rfl rfl (zY rfl rfl rfl (jD rfl rfl rfl (zA ?_)))
    exact xQ (.cons (by unfold oless; simp_all [look]) sbn) sbl
  ·refine jJ rfl rfl rfl (jJ rfl rfl rfl (jJ rfl rfl rfl (jJ rfl rfl rfl (kP rfl rfl rfl (kP rfl rfl rfl (kP rfl rfl rfl (kP rfl rfl rfl (kP rfl rfl rfl (jJ rfl rfl rfl (zY rfl rfl rfl (zA ?_)))))))))))
   exact xQ (.cons (by unfold oless; simp_all [look]) sbn) sbl
 refine zE rfl rfl (zA (zC (zZ ?_)))
 exact jI rfl (fun a w ha => jY rfl rfl ha) (fun a w ha => ⟨rfl, ha.grown nsl⟩)

section
variable {C : Ctx} {fr : List (Nat × Value)} {hp hp' : List Res} {a : Act} {w : World} {ops : Array Oper} {Q : Exit -> Act -> World -> Prop} {rest : List Oper}
 {d : Nat} {ty : TypeId} {pos : String} {after : Array Edge}
theorem zIf {x : Operand} {f : FuncId} {first cap vs : List Value} {args : Array Operand} {ts : Array TypeId} {v : Value} (hd : Nat.blt d C.N = true)
  (hx : ev fr x = some (.func (.func f) first.toArray cap.toArray)) (hargs : args.toList.map (ev fr) = vs.map some) (hf : Enters C.P f)
  (hc : ∀ a w, At C fr hp a w -> Calls C.P f (first ++ vs ++ cap).toArray w fun e w' => e = .returned v ∧ Grew w w' [])
  (k : Lst C ops Q rest ((d, v) :: fr) hp) : Lst C ops Q (⟨some d, .call { callee := .value x, args := args, argTypes := ts }, ty, pos, after, none⟩ :: rest) fr hp :=
 qY (X := Unit) (p := fun _ => True) (val := fun _ => v) (rs := fun _ => hp) hd hx hargs hf
  (fun a w ha => (hc a w ha).mono fun _ _ ⟨h1, h2⟩ => ⟨(), trivial, h1, by simpa using ha.more h2⟩) (fun _ _ => k)
theorem zJl {f : FuncId} {fn : Func} {c : Code} {vs : List Value} {fr0 : List (Nat × Value)} {a0 : Act} {R : Ending -> World -> Prop} {N : Nat} (fr : List (Nat × Value)) (ha : At C fr0 hp a0 w)
  (hf : C.P.funcs[f]? = some fn) (hb : fn.body = some c) (hN : fn.ntmps = N) (hle : Nat.ble vs.length N = true) (hfr : idx 0 vs = fr)
  (h : Cod ⟨C.P, C.B, C.w0, N, []⟩ c (bodyPostD C.P fn R) fr hp) : Calls C.P f vs.toArray w R := by
 refine zBc hf hb (h _ _ ⟨?_, rfl, ?_, ha.below, ha.base, ha.own, ha.apart⟩)
 ·have : vs.length <= N := by simpa [Nat.ble_eq] using hle
  simp [hN]; omega
 ·intro t v ht
  rw [<- hfr] at ht
  obtain ⟨j, rfl, hj⟩ := zAq vs 0 t v ht
  have hjl : j < vs.length := by
   rcases Nat.lt_or_ge j vs.length with h1 | h1
   ·exact h1
   ·rw [List.getElem?_eq_none h1] at hj; cases hj
  simp only [Nat.zero_add, Array.getD_eq_getD_getElem?]
  rw [Array.getElem?_append_left (by simpa using hjl)]
  simp [hj]
theorem zIw {fn : Func} {R : Ending -> World -> Prop} {x : Value} (hds : C.ds = []) (hr : ∀ a w, At C fr hp a w -> ResV C.P fn a.tmps x w) (k : ∀ a w, At C fr hp a w -> R (.returned x) w) : Ex C (bodyPostD C.P fn R) .ret fr hp := fun a w ha => by
 show Leaves C.P fn a.tmps R a.defers .returning w
 rw [ha.defs, hds]
 exact ⟨x, hr a w ha, k a w ha⟩
end
theorem F.agg111 : aggB Try.prog 111 = true := by unfold aggB; rw [Try.underlying111]
theorem F.ent83 : Enters Try.prog 83 := jG Try.func83 rfl (by kernel_rfl)
theorem F.ti111 : TI Try.prog 111 (.agg [.int .i64 0, .int .i64 0, .bool false].toArray) 3 24 := TI.of (by kernel_rfl)
theorem zIo (A : Option Addr) (c : Nat) (x o : Oc) (h1 : x.f < 2 ^ 63) (h2 : x.w < 2 ^ 63) (h3 : o.f < 2 ^ 63) (h4 : o.w < 2 ^ 63) (w : World) (hA : RdL Oc.cells 3 w A [x]) : Calls Try.prog 82 #[.func (.func 83) [].toArray [].toArray, .agg [.int .i64 (o.f : Int), .int .i64 (o.w : Int), .bool o.is].toArray, .slice A 1 c] w fun e w' => e = .returned (.agg [.int .i64 ((lst2 o x).f : Int), .int .i64 ((lst2 o x).w : Int), .bool (lst2 o x).is].toArray) ∧ Grew w w' [] := by
 refine enter (N := 22) [(0, .func (.func 83) [].toArray [].toArray), (1, .agg [.int .i64 (o.f : Int), .int .i64 (o.w : Int), .bool o.is].toArray), (2, .slice A 1 c)] Try.func82 rfl Try.ntmps82 rfl rfl ?_
 refine zD (zB (jT rfl rfl ?_))
 intro b4
 refine jA rfl F.ti111 ?_
 intro b6
 refine zA (zC (zD (zD (zB (zF rfl rfl (jX rfl rfl Try.underlying158 ?_))))))
 refine zF rfl rfl (zA (zC (zV (xM (G := Oc × Nat) (fun g => (g.2 = 0 ∧ g.1 = o) ∨ (g.2 = 1 ∧ g.1 = lst2 o x)) (fun g => 1 - g.2) (fun g => [(0, .func (.func 83) [].toArray [].toArray), (4, .pointer (some ⟨b4, 0, none⟩)), (6, .pointer (some ⟨b6, 0, none⟩)), (9, .slice A 1 c), (10, .int .i64 1), (11, .int .i64 (g.2 : Int))]) (fun g => [.blk b6 (.cells [.int .i64 0, .int .i64 0, .bool false].toArray 111 (0, 0)), .blk b4 (.cells [.int .i64 (g.1.f : Int), .int .i64 (g.1.w : Int), .bool g.1.is].toArray 111 (0, 0))]) (o, 0) (.inl ⟨rfl, rfl⟩) sbn sbl ?_))))
 rintro ⟨oc, k⟩ hk
 (try dsimp only at hk ⊢)
 refine zD (zB (zI rfl rfl rfl kG ?_))
 refine zA (zC (zD (zR rfl (fun hc0 => ?_) (fun hc0 => ?_))))
 ·have hk0 : k = 0 := by omega
  obtain rfl : o = oc := by rcases hk with h | h; exact h.2.symm; omega
  subst hk0
  obtain ⟨b, ob, rfl, hb, hcell⟩ := hA (by simp)
  refine zQ (zC (zD (zV (zD (zB (qE (j := 0) rfl rfl rfl Try.underlying158 F.ti111 rfl om ?_))))))
  refine qS (l := [.int .i64 (x.f : Int), .int .i64 (x.w : Int), .bool x.is]) rfl rfl F.agg111 F.ti111 rfl (fun a w ha j u hu => ha.old (hcell 0 x rfl j u hu) hb) ?_
  refine jA rfl F.ti111 ?_
  intro b8
  refine zK rfl rfl F.ti111 rfl ?_
  refine zA (zC (zD (zB (zF rfl rfl (zX rfl rfl F.agg111 F.ti111 ?_)))))
  refine zX rfl rfl F.agg111 F.ti111 ?_
  refine zIf (v := .bool (oless x o)) (first := []) (cap := []) (vs := [_, _]) rfl rfl rfl F.ent83 (fun a w ha => zUw x o h1 h2 h3 h4 w) ?_
  refine zA (zC (kV rfl (fun hc1 => ?_) (fun hc1 => ?_)))
  ·refine zB (zX rfl rfl F.agg111 F.ti111 ?_)
   refine zK rfl rfl F.ti111 rfl ?_
   refine zA (zO (zC (zB (zI rfl rfl rfl (fun w => jO w (jF _ om om)) ?_))))
   refine zF rfl rfl (zA (qR (lst2 o x, 1) (.inr ⟨rfl, rfl⟩) (by simp) (by (try dsimp only); repeat (first | exact Sub.nil _ | refine Sub.cons rfl ?_)) (by (try dsimp only); rw [show lst2 o x = x from if_pos hc1]; repeat (first | exact List.Sublist.refl _ | exact List.nil_sublist _ | refine List.Sublist.cons_cons _ ?_ | refine List.Sublist.cons _ ?_))))
  ·refine zQ (zO (zC (zB (zI rfl rfl rfl (fun w => jO w (jF _ om om)) ?_))))
   refine zF rfl rfl (zA (qR (lst2 o x, 1) (.inr ⟨rfl, rfl⟩) (by simp) (by (try dsimp only); repeat (first | exact Sub.nil _ | refine Sub.cons rfl ?_)) (by (try dsimp only); rw [show lst2 o x = o from if_neg (by rw [hc1]; simp)]; repeat (first | exact List.Sublist.refl _ | exact List.nil_sublist _ | refine List.Sublist.cons_cons _ ?_ | refine List.Sublist.cons _ ?_))))
 ·obtain rfl : oc = lst2 o x := by rcases hk with h | h; (have := h.1; omega); exact h.2
  refine kI (zT (zT (jK (zC (zD (zB (zX rfl rfl F.agg111 F.ti111 ?_)))))))
  refine zK rfl rfl F.ti111 rfl ?_
  refine zA (zC (zZ ?_))
  exact jI rfl (fun a w ha => by exact xU (ha := ha) rfl rfl F.agg111 F.ti111 rfl) (fun a w ha => ⟨rfl, ha.grown nsl⟩)

end Go.Proofs.Yteppiphdbondeaa.N
namespace Go.Proofs.Yteppiphdbondeaa.N
open Go Go.RowKit Go.Proofs
set_option linter.unusedSectionVars false
structure Srch where
 fA : Option Addr
 dA : Option Addr
 fc : Nat
 dc : Nat
 kiln : Nat
 fs : List Flt
 days : List Nat
 fa : FuncId
 fl : FuncId
 capA : List Value
 capL : List Value
 alw : Nat -> List Nat -> Bool
 las : Mor -> Bool
def Srch.cells (s : Srch) (km : Nat) : List Value := [.slice s.fA s.fs.length s.fc, .int .i64 (s.kiln : Int), .slice s.dA s.days.length s.dc, .func (.func s.fa) [].toArray s.capA.toArray, .func (.func s.fl) [].toArray s.capL.toArray, .map (some km)]
abbrev SOb (s : Srch) (km t : Nat) : Obj := .cells [.slice s.fA s.fs.length s.fc, .int .i64 (s.kiln : Int), .slice s.dA s.days.length s.dc, .func (.func s.fa) [].toArray s.capA.toArray, .func (.func s.fl) [].toArray s.capL.toArray, .map (some km)].toArray t (0, 0)
structure Srch.Ok (s : Srch) : Prop where
 f3 : s.fs.length <= 3
 ff : ∀ f ∈ s.fs, FltOk f
 d5 : s.days.length <= 5
 dd : ∀ n ∈ s.days, n <= 12
 ea : Enters Try.prog s.fa
 el : Enters Try.prog s.fl
def Srch.bst (s : Srch) (n : Nat) (m : Mor) : Oc := bstO s.alw s.las s.fs s.kiln s.days n m
def Srch.stp (s : Srch) (n : Nat) (m : Mor) (l : List Nat) : Oc := stpO s.alw s.fs s.kiln s.days (s.bst n) (s.days.length - (n + 1)) m l
theorem Srch.bst_succ (s : Srch) (n : Nat) (m : Mor) : s.bst (n + 1) m = (exts [] s.fs.length).foldl (fun o l => lst2 o (s.stp n m l)) noOc := rfl
theorem Srch.bst_le {s : Srch} (h : s.Ok) (n : Nat) (m : Mor) : (s.bst n m).f <= n ∧ (s.bst n m).w <= 3 * n := zNb h.f3 n m
theorem Srch.stp_le {s : Srch} (h : s.Ok) (n : Nat) (m : Mor) {l : List Nat} (hl : l.length <= 3) : (s.stp n m l).f <= n + 1 ∧ (s.stp n m l).w <= 3 * n + 3 := by
 unfold Srch.stp stpO
 split
 ·simp [noOc]
 ·split
  ·simp [noOc]
  ·have := s.bst_le h n (dayE s.fs s.kiln m l (s.days.getD (s.days.length - (n + 1)) 0)).2
   have := zE6 l
   have := zHb l
   dsimp only
   omega
structure KnOk (s : Srch) (kn : List (Spot × Value)) : Prop where
 nodup : (kn.map (·.1)).Nodup
 ok : ∀ e ∈ kn, MOk e.1.1 ∧ e.1.2 < s.days.length
 val : ∀ e ∈ kn, e.2 = (s.bst (s.days.length - e.1.2) e.1.1).val
theorem KnOk.nil (s : Srch) : KnOk s [] := ⟨List.nodup_nil, fun _ h => (by cases h), fun _ h => (by cases h)⟩
theorem KnOk.spots {s : Srch} {kn : List (Spot × Value)} (h : KnOk s kn) (hs : s.Ok) : ∀ x ∈ kn, KS.ok x.1 := fun x hx => ⟨(h.ok x hx).1, by have := (h.ok x hx).2; have := hs.d5; omega⟩
theorem KnOk.add {s : Srch} {kn : List (Spot × Value)} {m : Mor} {d : Nat} (h : KnOk s kn) (hm : MOk m) (hd : d < s.days.length) (hn : ((m, d) : Spot) ∉ kn.map (·.1)) : KnOk s (kn ++ [(((m, d) : Spot), (s.bst (s.days.length - d) m).val)]) := by
 refine ⟨?_, fun e he => ?_, fun e he => ?_⟩
 ·rw [List.map_append, List.nodup_append]
  exact ⟨h.nodup, by simp, fun a ha b hb e => by simp at hb; subst hb; exact hn (e ▸ ha)⟩
 ·rcases List.mem_append.1 he with he | he
  ·exact h.ok e he
  ·simp only [List.mem_singleton] at he
   subst he
   exact ⟨hm, hd⟩
 ·rcases List.mem_append.1 he with he | he
  ·exact h.val e he
  ·simp only [List.mem_singleton] at he
   subst he
   rfl
section
variable [I : Sys]
structure Srch.Env (s : Srch) (w : World) : Prop where
 rf : RdL Flt.cells 4 w s.fA s.fs
 rd : RdL ncell 1 w s.dA s.days
 al : ∀ (A : Option Addr) (c d : Nat) (acts : List Nat), RdL ncell 1 w A acts -> acts.length = s.fs.length -> d < s.days.length -> Calls Try.prog s.fa (([.int .i64 (d : Int), .slice A acts.length c] : List Value) ++ s.capA).toArray w fun e w' => e = .returned (.bool (s.alw d acts)) ∧ Grew w w' []
 la : ∀ (m : Mor), MOk m -> Calls Try.prog s.fl (([m.val] : List Value) ++ s.capL).toArray w fun e w' => e = .returned (.bool (s.las m)) ∧ Grew w w' []
def Stays (B : Nat) (w0 : World) (T : List Res) (φ : World -> Prop) : Prop := ∀ N ds fr hp a w, (∀ r ∈ T, r ∈ hp) -> At ⟨Try.prog, B, w0, N, ds⟩ fr hp a w -> φ w
theorem Stays.more {B : Nat} {w0 : World} {T T' : List Res} {φ : World -> Prop} (h : Stays B w0 T φ) (hs : ∀ r ∈ T, r ∈ T') : Stays B w0 T' φ := fun N ds fr hp a w hr ha => h N ds fr hp a w (fun r h => hr r (hs r h)) ha
theorem Stays.row {B c : Nat} {w0 : World} {A : Option Addr} {l : List Nat} : Stays B w0 [.row 3 1 A l.length c (ints l)] fun w => RdL ncell 1 w A l := fun _ _ _ _ _ _ hr ha => zNr (c := c) ha (fun _ => rfl) (hr _ (by simp))
def BestC (s : Srch) (n : Nat) : Prop :=
 ∀ (B : Nat) (w0 : World) (T : List Res) (N : Nat) (ds : List Deferred) (fr : List (Nat × Value)) (a : Act) (w : World) (kn : List (Spot × Value)) (km sb d z0 z1 z2 zw : Nat),
  d + n = s.days.length -> MOk ⟨[z0, z1, z2], zw⟩ -> KnOk s kn -> Stays B w0 T s.Env ->
  At ⟨Try.prog, B, w0, N, ds⟩ fr (.blk km (KS.obj kn) :: .blk sb (.cells (s.cells km).toArray 101 (0, 0)) :: T) a w ->
  Calls Try.prog 68 #[.pointer (some ⟨sb, 0, none⟩), .agg [.int .i64 (z0 : Int), .int .i64 (z1 : Int), .int .i64 (z2 : Int), .int .u8 (zw : Int), .int .i64 (d : Int)].toArray] w fun e w' =>
   ∃ kn', (KnOk s kn' ∧ ∀ x ∈ kn', x ∈ kn ∨ d <= x.1.2) ∧ e = .returned (s.bst n ⟨[z0, z1, z2], zw⟩).val ∧ At ⟨Try.prog, B, w0, N, ds⟩ fr (.blk km (KS.obj kn') :: .blk sb (.cells (s.cells km).toArray 101 (0, 0)) :: T) a w'
end
structure BI (s : Srch) (kn : List (Spot × Value)) (n d : Nat) (x : Oc × List (Spot × Value)) : Prop where
 le : x.1.f <= n + 1 ∧ x.1.w <= 3 * n + 3
 ok : KnOk s x.2
 late : ∀ e ∈ x.2, e ∈ kn ∨ d + 1 <= e.1.2
def BPre (s : Srch) (kn : List (Spot × Value)) (n d : Nat) (x : Oc × List (Spot × Value)) (l : List Nat) : Prop := BI s kn n d x ∧ l.length = s.fs.length
def BStep (s : Srch) (kn : List (Spot × Value)) (n d : Nat) (m : Mor) (x : Oc × List (Spot × Value)) (l : List Nat) (x' : Oc × List (Spot × Value)) (b : Bool) : Prop := b = true ∧ BI s kn n d x' ∧ x'.1 = lst2 x.1 (s.stp n m l)
theorem zM9 {s : Srch} {kn : List (Spot × Value)} {n d : Nat} {m : Mor} : ∀ (ls : List (List Nat)) (x : Oc × List (Spot × Value)), (∀ l ∈ ls, l.length = s.fs.length) -> BI s kn n d x -> Ready (BPre s kn n d) (BStep s kn n d m) x ls
 | [], _, _, _ => trivial
 | l :: ls, x, hl, hx => ⟨⟨hx, hl l (by simp)⟩, fun x' hx' => zM9 ls x' (fun l h => hl l (by simp [h])) hx'.2.1⟩
theorem zWf {s : Srch} {kn : List (Spot × Value)} {n d : Nat} {m : Mor} {ls : List (List Nat)} {x x' : Oc × List (Spot × Value)} {b : Bool} (h : Runs (BStep s kn n d m) x ls x' b) : BI s kn n d x -> b = true ∧ BI s kn n d x' ∧ x'.1 = ls.foldl (fun o l => lst2 o (s.stp n m l)) x.1 := by
 induction h with
 | nil x => exact fun hx => ⟨rfl, hx, rfl⟩
 | cons h1 _ ih =>
  intro _
  obtain ⟨h2, h3, h4⟩ := ih h1.2.1
  refine ⟨h2, h3, ?_⟩
  rw [h4, h1.2.2]
  rfl
 | stop h1 => cases h1.1
theorem zIz {w : World} {A : Option Addr} {l : List Nat} (h : RdL ncell 1 w A l) (hl : 0 < l.length) : ∃ b o, A = some ⟨b, o, none⟩ := by
 obtain ⟨b, o, h1, _⟩ := h hl
 exact ⟨b, o, h1⟩
theorem zIv {w : World} {b o k x : Nat} {l : List Nat} (h : RdL ncell 1 w (some ⟨b, o, none⟩) l) (hx : l[k]? = some x) : w.cell? ⟨b, o + k * 1 + 0, none⟩ = some (.int .i64 (x : Int)) := by
 have hl : 0 < l.length := by
  have := (List.getElem?_eq_some_iff.1 hx).1
  omega
 obtain ⟨b', o', h1, _, h3⟩ := h hl
 cases h1
 exact h3 k x hx 0 _ rfl
theorem zero111 (w : World) : (zeroValue 111).run Try.prog w = .ok (.agg [.int .i64 0, .int .i64 0, .bool false].toArray) w := by
 letI : Sys := nSys Try.prog (Cp 0 131 msgM) 0
 obtain ⟨i, hi, hz, _⟩ := (TI.of kr : TI Try.prog 111 (.agg [.int .i64 0, .int .i64 0, .bool false].toArray) 3 24)
 simp [zeroValue, typeInfo, hi, hz]
theorem zVt {s : Srch} {kn : List (Spot × Value)} {m : Mor} {d n : Nat} (h : KnOk s kn) (hd : s.days.length - d = n + 1) (hm : ((m, d) : Spot) ∈ kn.map (·.1)) : (((m, d) : Spot), (s.bst (n + 1) m).val) ∈ kn := by
 obtain ⟨e, he, e1⟩ := List.mem_map.1 hm
 have h2 := h.val e he
 rw [e1] at h2
 dsimp only at h2
 rw [hd] at h2
 obtain ⟨k, v⟩ := e
 dsimp only at e1 h2
 subst e1
 rw [<- h2]
 exact he
theorem zL2 [_I : Sys] {C : Ctx} {fr : List (Nat × Value)} {hp : List Res} {a : Act} {w : World} {b : Nat} {o : Oc} {t : TypeId} {fz : Nat × Nat} (ha : At C fr hp a w) (hb : Res.blk b (.cells o.cells.toArray t fz) ∈ hp) : RdL Oc.cells 3 w (some ⟨b, 0, none⟩) [o] := fun _ => by
 refine ⟨b, 0, rfl, (Array.getElem?_eq_some_iff.1 (ha.mem_blk hb)).1, fun k x hk j u hu => ?_⟩
 rcases k with _ | k
 ·simp at hk
  subst hk
  rw [cell_of_row w b _ _ _ _ (ha.mem_blk hb)]
  simpa using hu
 ·simp at hk
end Go.Proofs.Yteppiphdbondeaa.N
namespace Go.Proofs.Yteppiphdbondeaa.N
open Go Go.RowKit Go.Proofs
set_option linter.unusedSectionVars false
variable [I : Sys]
theorem F.ent68 : Enters Try.prog 68 := jG Try.func68 rfl (by kernel_rfl)
theorem F.ent73 : Enters Try.prog 73 := jG Try.func73 rfl (by kernel_rfl)
theorem F.fi101_0 : FI Try.prog 101 0 77 0 := ⟨_, _, Try.underlying101, rfl, rfl, rfl⟩
theorem F.fi101_1 : FI Try.prog 101 1 97 3 := ⟨_, _, Try.underlying101, rfl, rfl, rfl⟩
theorem F.fi107_0 : FI Try.prog 107 0 95 0 := ⟨_, _, Try.underlying107, rfl, rfl, rfl⟩
theorem F.fi107_1 : FI Try.prog 107 1 3 4 := ⟨_, _, Try.underlying107, rfl, rfl, rfl⟩
theorem F.one97 : One Try.prog 97 := ⟨by unfold aggB; rw [Try.underlying97], by rw [Try.underlying97]; simp⟩
theorem F.pl107 : Places Try.prog 107 [(0, 4), (4, 1)] := .inl ⟨_, Try.underlying107, by kernel_rfl⟩
theorem F.pl111 : Places Try.prog 111 [(0, 2), (2, 1)] := .inl ⟨_, Try.underlying111, by kernel_rfl⟩
theorem F.ti107 : TI Try.prog 107 (.agg [.int .i64 0, .int .i64 0, .int .i64 0, .int .u8 0, .int .i64 0].toArray) 5 40 := TI.of (by kernel_rfl)
theorem F.ti97 : TI Try.prog 97 (.nilFunc) 1 8 := TI.of (by kernel_rfl)
theorem zKw {s : Srch} (hs : s.Ok) {n : Nat} (ih : BestC s n) {B : Nat} {w0 : World} {T : List Res} {N : Nat} {ds : List Deferred} {fr : List (Nat × Value)} {a : Act} {w : World} {kn : List (Spot × Value)} {km sb d z0 z1 z2 zw ac : Nat} {aA : Option Addr} {acts : List Nat} (hd : d + (n + 1) = s.days.length) (hm : MOk (⟨[z0, z1, z2], zw⟩ : Mor)) (hz0 : z0 <= 4) (hz1 : z1 <= 4) (hz2 : z2 <= 4) (hzw : zw < 8) (hal : acts.length = s.fs.length) (hkn : KnOk s kn) (hE : Stays B w0 T s.Env) (hAc : Stays B w0 T fun w => RdL ncell 1 w aA acts) (ha : At ⟨Try.prog, B, w0, N, ds⟩ fr (.blk km (KS.obj kn) :: .blk sb (.cells (s.cells km).toArray 101 (0, 0)) :: T) a w) : Calls Try.prog 70 #[.pointer (some ⟨sb, 0, none⟩), .agg [.int .i64 (z0 : Int), .int .i64 (z1 : Int), .int .i64 (z2 : Int), .int .u8 (zw : Int), .int .i64 (d : Int)].toArray, .slice aA acts.length ac] w fun e w' => ∃ kn', (KnOk s kn' ∧ ∀ x ∈ kn', x ∈ kn ∨ d + 1 <= x.1.2) ∧ e = .returned (s.stp n (⟨[z0, z1, z2], zw⟩ : Mor) acts).val ∧ At ⟨Try.prog, B, w0, N, ds⟩ fr (.blk km (KS.obj kn') :: .blk sb (.cells (s.cells km).toArray 101 (0, 0)) :: T) a w' := by
 have hs5 := hs.d5
 have hs3 := hs.f3
 have ha0 : At ⟨Try.prog, B, w0, N, ds⟩ fr (.blk km (KS.obj kn) :: .blk sb (.cells [.slice s.fA s.fs.length s.fc, .int .i64 (s.kiln : Int), .slice s.dA s.days.length s.dc, .func (.func s.fa) [].toArray s.capA.toArray, .func (.func s.fl) [].toArray s.capL.toArray, .map (some km)].toArray 101 (0, 0)) :: T) a w := ha
 obtain ⟨sugar, hsx⟩ : ∃ x, s.days[d]? = some x := ⟨_, List.getElem?_eq_getElem om⟩
 have hxs : sugar <= 12 := hs.dd sugar (List.mem_of_getElem? hsx)
 obtain ⟨db, dbo, hdA⟩ := zIz (hE _ _ _ _ _ _ (fun r hr => by simp [hr]) ha).rd om
 have hglen : acts.length <= s.fs.length := by omega
 obtain ⟨hok2, -⟩ := wG (fs := s.fs) (kiln := s.kiln) (m := (⟨[z0, z1, z2], zw⟩ : Mor)) (acts := acts) (sugar := sugar) hs.ff hm hglen hs.f3
 have htry : ∀ w, RdL Flt.cells 4 w s.fA s.fs -> RdL ncell 1 w aA acts -> Calls Try.prog 71 #[.agg [.slice s.fA s.fs.length s.fc, .int .i64 (s.kiln : Int), .slice s.dA s.days.length s.dc].toArray, .agg (V4 z0 z1 z2 zw).toArray, .slice aA acts.length ac, .int .i64 (sugar : Int)] w (fun e w' => e = .returned (.tuple #[(dayE s.fs s.kiln (⟨[z0, z1, z2], zw⟩ : Mor) acts sugar).2.val, .int .i64 (((dayE s.fs s.kiln (⟨[z0, z1, z2], zw⟩ : Mor) acts sugar).1 : Nat) : Int)]) ∧ Grew w w' []) := fun w hF hA => zKj s.fA s.dA aA s.fc s.days.length s.dc ac s.kiln s.fs hs.f3 hs.ff z0 z1 z2 zw hz0 hz1 hz2 hzw acts hglen sugar hxs w hF hA
 have hstp : s.stp n (⟨[z0, z1, z2], zw⟩ : Mor) acts = if s.alw d acts = false then noOc else if (dayE s.fs s.kiln (⟨[z0, z1, z2], zw⟩ : Mor) acts sugar).1 ≠ 0 then noOc else ⟨(s.bst n (dayE s.fs s.kiln (⟨[z0, z1, z2], zw⟩ : Mor) acts sugar).2).f + spF acts, (s.bst n (dayE s.fs s.kiln (⟨[z0, z1, z2], zw⟩ : Mor) acts sugar).2).w + spW acts, (s.bst n (dayE s.fs s.kiln (⟨[z0, z1, z2], zw⟩ : Mor) acts sugar).2).is⟩ := by
  unfold Srch.stp stpO
  rw [show s.days.length - (n + 1) = d from by omega, show s.days.getD d 0 = sugar from by rw [List.getD_eq_getElem?_getD, hsx]; rfl]
 generalize dayE s.fs s.kiln (⟨[z0, z1, z2], zw⟩ : Mor) acts sugar = st at hok2 htry hstp ⊢
 obtain ⟨er, nm⟩ := st
 dsimp only at hok2 htry hstp ⊢
 obtain ⟨y0, y1, y2, yw, rfl, hy0, hy1, hy2, hyw⟩ := hok2.form
 refine zGf (N := 71) [(0, .pointer (some ⟨sb, 0, none⟩)), (1, .agg [.int .i64 (z0 : Int), .int .i64 (z1 : Int), .int .i64 (z2 : Int), .int .u8 (zw : Int), .int .i64 (d : Int)].toArray), (2, .slice aA acts.length ac)] ha0 Try.func70 rfl Try.ntmps70 rfl rfl ?_
 refine zD (zB (jT rfl rfl ?_))
 intro b4
 refine jA rfl F.ti111 ?_
 intro b6
 refine zA (zC (zD (zD (kJ [] F.follows 9 rfl [false, false, false, false, false, false, false, false, false] rfl ?_))))
 refine zG 0 rfl rfl rfl (jC rfl) ?_
 refine zG 1 rfl rfl rfl (qX rfl) ?_
 refine zG 2 rfl rfl rfl (jS rfl F.fi101_1 F.ti97) ?_
 refine zG 3 rfl rfl rfl (kL rfl F.one97) ?_
 refine zG 4 rfl rfl rfl (jS rfl F.fi107_1 F.ti3) ?_
 refine zG 5 rfl rfl rfl (kL rfl F.one3) ?_
 refine zG 6 rfl rfl rfl (jC rfl) ?_
 refine an1 7 rfl ?_
 refine zIf (v := .bool (s.alw d acts)) (first := []) (cap := s.capA) (vs := [_, _]) rfl rfl rfl hs.ea (fun a w ha => (hE _ _ _ _ _ _ (fun r hr => by simp [hr]) ha).al aA ac d acts (hAc _ _ _ _ _ _ (fun r hr => by simp [hr]) ha) hal om) ?_
 refine zA (anb (zG 8 rfl rfl rfl (zIc rfl) ?_))
 refine adn (zC (kV rfl (fun hc0 => ?_) (fun hc0 => ?_)))
 ·refine zD (zB (kD (vs := []) (l' := [_, _, _]) rfl rfl F.ti111 F.pl111 (.nil _) rfl ?_))
  refine zK rfl rfl F.ti111 rfl ?_
  refine zA (zC (zZ (zU ?_)))
  exact jI rfl (fun a w ha => by exact xU (ha := ha) rfl rfl F.agg111 F.ti111 rfl) (fun a w ha' => ⟨kn, ⟨hkn, fun x hx => .inl hx⟩, by rw [hstp, if_pos (by simpa using hc0)]; rfl, ha.back (ha'.pck pkk)⟩)
 ·refine zQ (zC (zD (wT (G := Nat) (fun _ => True) (fun b7 => [(0, .pointer (some ⟨sb, 0, none⟩)), (2, .slice aA acts.length ac), (4, .pointer (some ⟨b4, 0, none⟩)), (6, .pointer (some ⟨b6, 0, none⟩)), (7, .pointer (some ⟨b7, 0, none⟩)), (8, .int .i64 (er : Int))]) (fun b7 => .blk b7 (.cells (V4 y0 y1 y2 yw).toArray 95 (0, 0)) :: .blk b6 (.cells [.int .i64 0, .int .i64 0, .bool false].toArray 111 (0, 0)) :: .blk b4 (.cells [.int .i64 (z0 : Int), .int .i64 (z1 : Int), .int .i64 (z2 : Int), .int .u8 (zw : Int), .int .i64 (d : Int)].toArray 107 (0, 0)) :: .blk km (KS.obj kn) :: .blk sb (.cells [.slice s.fA s.fs.length s.fc, .int .i64 (s.kiln : Int), .slice s.dA s.days.length s.dc, .func (.func s.fa) [].toArray s.capA.toArray, .func (.func s.fl) [].toArray s.capL.toArray, .map (some km)].toArray 101 (0, 0)) :: T) ?_ ?_)))
  ·refine kJ [] F.follows 24 rfl [false, false, false, false, false, false, false, false, false, false, false, false, false, false, false, false, false, false, false, false, false, false, false, false] rfl ?_
   refine zG 0 rfl rfl rfl (jC rfl) ?_
   refine zG 1 rfl rfl rfl (qX rfl) ?_
   refine zG 2 rfl rfl rfl (jS rfl F.fi101_0 F.ti77) ?_
   refine zG 3 rfl rfl rfl (qJ rfl F.agg77 F.ti77) ?_
   refine zG 4 rfl rfl rfl (jS rfl F.fi107_0 F.ti95) ?_
   refine zG 5 rfl rfl rfl (qJ rfl F.agg95 F.ti95) ?_
   refine zG 6 rfl rfl rfl (jC rfl) ?_
   refine zG 7 rfl rfl rfl (jC rfl) ?_
   refine zG 8 rfl rfl rfl (qX rfl) ?_
   refine zG 9 rfl rfl rfl (jS rfl F.fi101_0 F.ti77) ?_
   refine zG 10 rfl rfl rfl (jS rfl F.fi77_0 F.ti27) ?_
   refine zG 11 rfl rfl rfl (jS rfl F.fi27_2 F.ti22) ?_
   refine zG 12 rfl rfl rfl (kL rfl F.one22) ?_
   refine zG 13 rfl rfl rfl (jS rfl F.fi107_1 F.ti3) ?_
   refine zG 14 rfl rfl rfl (kL rfl F.one3) ?_
   refine zG 15 rfl rfl rfl (kZ (j := d) (show _ = some (Value.slice (some ⟨db, dbo, none⟩) s.days.length s.dc) from by rw [<- hdA]; rfl) rfl Try.underlying22 F.ti3 rfl (show d < s.days.length by omega)) ?_
   refine zG 16 rfl rfl rfl (kK (v := .int .i64 (sugar : Int)) rfl F.one3 (fun a w ha => zIv (by have h := (hE _ _ _ _ _ _ (fun r hr => by simp [hr]) ha).rd; rw [hdA] at h; exact h) hsx)) ?_
   refine vP 17 21 kr rfl rfl rfl rfl ?_ ?_
   ·refine zW (v := .tuple #[.agg (V4 y0 y1 y2 yw).toArray, .int .i64 (er : Int)]) (vs := [_, _, _, _]) rfl rfl F.ent71 (fun a w ha => (htry w (hE _ _ _ _ _ _ (fun r hr => by simp [hr]) ha).rf (hAc _ _ _ _ _ _ (fun r hr => by simp [hr]) ha)).mono (fun e w' h => ⟨h.1.trans rfl, h.2⟩)) ?_
    refine zA (anb (zG 18 rfl rfl rfl (jC rfl) ?_))
    refine zG 19 rfl rfl rfl (qF rfl rfl) ?_
    refine zG 20 rfl rfl rfl (qF rfl rfl) ?_
    refine an1 21 rfl ?_
    refine jA rfl F.ti95 ?_
    intro b7
    refine zA (anb (an1 22 rfl ?_))
    refine zK rfl rfl F.ti95 rfl ?_
    refine zA (anb (zG 23 rfl rfl rfl (qI rfl) ?_))
    refine adn ?_
    exact qV b7 trivial sbn pkk
   ·refine jA rfl F.ti95 ?_
    intro b7
    refine zA (anb (an1 17 rfl ?_))
    refine zW (v := .tuple #[.agg (V4 y0 y1 y2 yw).toArray, .int .i64 (er : Int)]) (vs := [_, _, _, _]) rfl rfl F.ent71 (fun a w ha => (htry w (hE _ _ _ _ _ _ (fun r hr => by simp [hr]) ha).rf (hAc _ _ _ _ _ _ (fun r hr => by simp [hr]) ha)).mono (fun e w' h => ⟨h.1.trans rfl, h.2⟩)) ?_
    refine zA (anb (zG 18 rfl rfl rfl (jC rfl) ?_))
    refine zG 19 rfl rfl rfl (qF rfl rfl) ?_
    refine zG 20 rfl rfl rfl (qF rfl rfl) ?_
    refine an1 22 rfl ?_
    refine zK rfl rfl F.ti95 rfl ?_
    refine zA (anb (zG 23 rfl rfl rfl (qI rfl) ?_))
    refine adn ?_
    exact qV b7 trivial sbn pkk
  ·rintro b7 -
   (try dsimp only)
   refine zC (zD (zD (zB (zF rfl rfl (zI rfl rfl rfl jP ?_)))))
   refine zA (zC (zR rfl (fun hc1 => ?_) (fun hc1 => ?_)))
   ·refine zD (zB (kD (vs := []) (l' := [_, _, _]) rfl rfl F.ti111 F.pl111 (.nil _) rfl ?_))
    refine zK rfl rfl F.ti111 rfl ?_
    refine zA (zC (zZ (zU ?_)))
    exact jI rfl (fun a w ha => by exact xU (ha := ha) rfl rfl F.agg111 F.ti111 rfl) (fun a w ha' => ⟨kn, ⟨hkn, fun x hx => .inl hx⟩, by rw [hstp, if_neg (by simpa using hc0), if_pos om]; rfl, ha.back (ha'.pck pkk)⟩)
   ·refine zQ (zC (zD (zB (zF rfl rfl (zX rfl rfl F.agg95 F.ti95 ?_)))))
    refine zP rfl rfl F.fi107_1 F.ti3 ?_
    refine jE rfl rfl F.one3 ?_
    refine zI (v := .int .i64 ((d + 1 : Nat) : Int)) rfl rfl rfl (fun w => jO w (by rw [jF _ om om]; omega)) ?_
    refine kD (vs := [(0, _), (1, _)]) (l' := [_, _, _, _, _]) rfl rfl F.ti107 F.pl107 (.cons rfl rfl (.cons rfl rfl (.nil _))) rfl ?_
    have hob := s.bst_le hs n (⟨[y0, y1, y2], yw⟩ : Mor)
    have hsf := zE6 acts
    have hsw := zHb acts
    refine qY (X := List (Spot × Value)) (first := []) (cap := []) (vs := [_, _]) (p := fun kn' => KnOk s kn' ∧ ∀ x ∈ kn', x ∈ kn ∨ d + 1 <= x.1.2) (val := fun _ => .agg [.int .i64 ((s.bst n (⟨[y0, y1, y2], yw⟩ : Mor)).f : Int), .int .i64 ((s.bst n (⟨[y0, y1, y2], yw⟩ : Mor)).w : Int), .bool (s.bst n (⟨[y0, y1, y2], yw⟩ : Mor)).is].toArray) (rs := fun kn' => .blk b7 (.cells (V4 y0 y1 y2 yw).toArray 95 (0, 0)) :: .blk b6 (.cells [.int .i64 0, .int .i64 0, .bool false].toArray 111 (0, 0)) :: .blk b4 (.cells [.int .i64 (z0 : Int), .int .i64 (z1 : Int), .int .i64 (z2 : Int), .int .u8 (zw : Int), .int .i64 (d : Int)].toArray 107 (0, 0)) :: .blk km (KS.obj kn') :: .blk sb (.cells [.slice s.fA s.fs.length s.fc, .int .i64 (s.kiln : Int), .slice s.dA s.days.length s.dc, .func (.func s.fa) [].toArray s.capA.toArray, .func (.func s.fl) [].toArray s.capL.toArray, .map (some km)].toArray 101 (0, 0)) :: T) rfl rfl rfl F.ent68 (fun a w ha => ?_) ?_
    ·refine (ih B w0 (.blk b7 (.cells (V4 y0 y1 y2 yw).toArray 95 (0, 0)) :: .blk b6 (.cells [.int .i64 0, .int .i64 0, .bool false].toArray 111 (0, 0)) :: .blk b4 (.cells [.int .i64 (z0 : Int), .int .i64 (z1 : Int), .int .i64 (z2 : Int), .int .u8 (zw : Int), .int .i64 (d : Int)].toArray 107 (0, 0)) :: T) _ _ _ _ _ kn km sb (d + 1) y0 y1 y2 yw om ⟨rfl, by simp; omega, hyw⟩ hkn (hE.more (fun r hr => by simp [hr])) (ha.pck pkk)).mono ?_
     rintro e w' ⟨kn1, h1, h2, h3⟩
     exact ⟨kn1, h1, h2, h3.pck pkk⟩
    rintro kn1 ⟨hkn1, hkn2⟩
    dsimp only [Srch.cells]
    generalize s.bst n (⟨[y0, y1, y2], yw⟩ : Mor) = o at hob hstp ⊢
    refine zF rfl rfl (zW (v := .agg [.int .i64 ((spF acts : Nat) : Int), .int .i64 ((spW acts : Nat) : Int)].toArray) (vs := [_]) rfl rfl F.ent73 (fun a w ha => zNm aA ac acts (by have := hs.f3; omega) w (hAc _ _ _ _ _ _ (fun r hr => by simp [hr]) ha)) ?_)
    refine jA rfl F.ti111 ?_
    intro b9
    refine jA rfl F.ti109 ?_
    intro b10
    refine zK rfl rfl F.ti111 rfl ?_
    refine zK rfl rfl F.ti109 rfl ?_
    refine zA (zC (zD (zB (zP rfl rfl F.fi111_0 F.ti109 ?_))))
    refine zP rfl rfl F.fi109_0 F.ti3 ?_
    refine jE rfl rfl F.one3 ?_
    refine zP rfl rfl F.fi109_0 F.ti3 ?_
    refine jE rfl rfl F.one3 ?_
    refine zI (v := .int .i64 ((o.f + spF acts : Nat) : Int)) rfl rfl rfl (fun w => jO w (by rw [jF _ om om]; omega)) ?_
    refine zP rfl rfl F.fi111_0 F.ti109 ?_
    refine zP rfl rfl F.fi109_0 F.ti3 ?_
    refine zK rfl rfl F.ti3 rfl ?_
    refine zA (zC (zD (zB (zP rfl rfl F.fi111_0 F.ti109 ?_))))
    refine zP rfl rfl F.fi109_1 F.ti3 ?_
    refine jE rfl rfl F.one3 ?_
    refine zP rfl rfl F.fi109_1 F.ti3 ?_
    refine jE rfl rfl F.one3 ?_
    refine zI (v := .int .i64 ((o.w + spW acts : Nat) : Int)) rfl rfl rfl (fun w => jO w (by rw [jF _ om om]; omega)) ?_
    refine zP rfl rfl F.fi111_0 F.ti109 ?_
    refine zP rfl rfl F.fi109_1 F.ti3 ?_
    refine zK rfl rfl F.ti3 rfl ?_
    refine zA (zC (zD (zB (zX rfl rfl F.agg111 F.ti111 ?_))))
    refine zK rfl rfl F.ti111 rfl ?_
    refine zA (zC (zZ ?_))
    exact jI rfl (fun a w ha => by exact xU (ha := ha) rfl rfl F.agg111 F.ti111 rfl) (fun a w ha' => ⟨kn1, ⟨hkn1, hkn2⟩, by rw [hstp, if_neg (by simpa using hc0), if_neg om]; rfl, ha.back (ha'.pck pkk)⟩)

theorem F.agg107 : aggB Try.prog 107 = true := by unfold aggB; rw [Try.underlying107]
theorem F.ent70 : Enters Try.prog 70 := jG Try.func70 rfl (by kernel_rfl)
theorem F.ent82 : Enters Try.prog 82 := jG Try.func82 rfl (by kernel_rfl)
theorem F.fi101_2 : FI Try.prog 101 2 98 4 := ⟨_, _, Try.underlying101, rfl, rfl, rfl⟩
theorem F.fi101_3 : FI Try.prog 101 3 99 5 := ⟨_, _, Try.underlying101, rfl, rfl, rfl⟩
theorem F.one75 : One Try.prog 75 := ⟨by unfold aggB; rw [Try.underlying75], by rw [Try.underlying75]; simp⟩
theorem F.one98 : One Try.prog 98 := ⟨by unfold aggB; rw [Try.underlying98], by rw [Try.underlying98]; simp⟩
theorem F.one99 : One Try.prog 99 := ⟨by unfold aggB; rw [Try.underlying99], by rw [Try.underlying99]; simp⟩
theorem F.ti98 : TI Try.prog 98 (.nilFunc) 1 8 := TI.of (by kernel_rfl)
theorem F.ti99 : TI Try.prog 99 (.map none) 1 8 := TI.of (by kernel_rfl)
set_option maxRecDepth 4000 in
theorem zNe {s : Srch} (hs : s.Ok) {nn : Nat} (ih0 : ∀ n, nn = n + 1 -> BestC s n) : BestC s nn := by
 intro B w0 T N ds fr a w kn km sb d z0 z1 z2 zw hdn hm hkn hE ha
 have hs5 := hs.d5
 have hs3 := hs.f3
 obtain ⟨-, hsm, hzw⟩ := id hm
 have hz0 : z0 <= 4 := hsm z0 (by simp)
 have hz1 : z1 <= 4 := hsm z1 (by simp)
 have hz2 : z2 <= 4 := hsm z2 (by simp)
 dsimp only at hzw
 have ha0 : At ⟨Try.prog, B, w0, N, ds⟩ fr (.blk km (KS.obj kn) :: .blk sb (.cells [.slice s.fA s.fs.length s.fc, .int .i64 (s.kiln : Int), .slice s.dA s.days.length s.dc, .func (.func s.fa) [].toArray s.capA.toArray, .func (.func s.fl) [].toArray s.capL.toArray, .map (some km)].toArray 101 (0, 0)) :: T) a w := ha
 refine zJl (N := 57) [(0, .pointer (some ⟨sb, 0, none⟩)), (1, .agg [.int .i64 (z0 : Int), .int .i64 (z1 : Int), .int .i64 (z2 : Int), .int .u8 (zw : Int), .int .i64 (d : Int)].toArray)] ha0 Try.func68 rfl Try.ntmps68 rfl rfl ?_
 refine zD (zB (jT rfl rfl ?_))
 intro b2
 refine jT rfl rfl ?_
 intro b3
 refine jA rfl F.ti111 ?_
 intro b4
 refine zA (zC (zD (zD (kJ [] F.follows 10 rfl [false, false, false, false, false, false, false, false, false, false] rfl ?_))))
 refine zG 0 rfl rfl rfl (jS rfl F.fi107_1 F.ti3) ?_
 refine zG 1 rfl rfl rfl (kL rfl F.one3) ?_
 refine zG 2 rfl rfl rfl (kL rfl F.one75) ?_
 refine zG 3 rfl rfl rfl (qX rfl) ?_
 refine zG 4 rfl rfl rfl (qT rfl F.fi101_0 F.ti77) ?_
 refine zG 5 rfl rfl rfl (qT rfl F.fi77_0 F.ti27) ?_
 refine zG 6 rfl rfl rfl (qT rfl F.fi27_2 F.ti22) ?_
 refine zG 7 rfl rfl rfl (kL rfl F.one22) ?_
 refine zG 8 rfl rfl rfl (zB1 rfl Try.underlying22) ?_
 refine zG 9 rfl rfl rfl (qC rfl rfl kC) ?_
 refine adn (zC (zR rfl (fun hc0 => ?_) (fun hc0 => ?_)))
 ·obtain rfl : nn = 0 := by omega
  refine zD (kJ [.b b4] F.follows 9 rfl [false, false, false, false, false, false, false, false, false] rfl ?_)
  refine zG 0 rfl rfl rfl (kL rfl F.one75) ?_
  refine zG 1 rfl rfl rfl (qX rfl) ?_
  refine zG 2 rfl rfl rfl (qT rfl F.fi101_2 F.ti98) ?_
  refine zG 3 rfl rfl rfl (kL rfl F.one98) ?_
  refine zG 4 rfl rfl rfl (jS rfl F.fi107_0 F.ti95) ?_
  refine zG 5 rfl rfl rfl (qJ rfl F.agg95 F.ti95) ?_
  refine an1 6 rfl ?_
  refine zIf (v := .bool (s.las (⟨[z0, z1, z2], zw⟩ : Mor))) (first := []) (cap := s.capL) (vs := [_]) rfl rfl rfl hs.el (fun a w ha => (hE _ _ _ _ _ _ (fun r hr => by simp [hr]) ha).la _ hm) ?_
  refine zA (anb (zG 7 rfl rfl rfl (xP (vs := [(1, _)]) (l' := [_, _, _]) rfl F.ti111 F.pl111 (.cons rfl rfl (.nil _)) rfl) ?_))
  refine an1 8 rfl ?_
  refine zK rfl rfl F.ti111 rfl ?_
  refine zA (anb (adn (zC (zZ (zU ?_)))))
  exact zIw rfl (fun a w ha => by exact xU (ha := ha) rfl rfl F.agg111 F.ti111 rfl) (fun a w ha' => ⟨kn, ⟨hkn, fun x hx => .inl hx⟩, rfl, ha.back (ha'.pck pkk)⟩)
 ·obtain ⟨n, rfl⟩ : ∃ n, nn = n + 1 := ⟨nn - 1, by omega⟩
  have ih := ih0 n rfl
  have hd : d + (n + 1) = s.days.length := hdn
  have hdl : s.days.length - d = n + 1 := by omega
  have hI0 : BI s kn n d (noOc, kn) := ⟨by simp [noOc], hkn, fun e he => .inl he⟩
  refine zQ (zC (zD ?_))
  rcases Classical.em ((((⟨[z0, z1, z2], zw⟩ : Mor), d) : Spot) ∈ kn.map (·.1)) with hmet | hmet
  ·refine wT (G := Nat) (fun _ => True) (fun b5 => (6, .bool true) :: [(2, .pointer (some ⟨b2, 0, none⟩)), (3, .pointer (some ⟨b3, 0, none⟩)), (4, .pointer (some ⟨b4, 0, none⟩)), (5, .pointer (some ⟨b5, 0, none⟩))]) (fun b5 => .blk b5 (.cells [.int .i64 ((s.bst (n + 1) (⟨[z0, z1, z2], zw⟩ : Mor)).f : Int), .int .i64 ((s.bst (n + 1) (⟨[z0, z1, z2], zw⟩ : Mor)).w : Int), .bool (s.bst (n + 1) (⟨[z0, z1, z2], zw⟩ : Mor)).is].toArray 111 (0, 0)) :: .blk b4 (.cells [.int .i64 0, .int .i64 0, .bool false].toArray 111 (0, 0)) :: .blk b3 (.cells [.int .i64 (z0 : Int), .int .i64 (z1 : Int), .int .i64 (z2 : Int), .int .u8 (zw : Int), .int .i64 (d : Int)].toArray 107 (0, 0)) :: .blk b2 (.cells [.pointer (some ⟨sb, 0, none⟩)].toArray 75 (0, 0)) :: .blk km (KS.obj kn) :: .blk sb (.cells [.slice s.fA s.fs.length s.fc, .int .i64 (s.kiln : Int), .slice s.dA s.days.length s.dc, .func (.func s.fa) [].toArray s.capA.toArray, .func (.func s.fl) [].toArray s.capL.toArray, .map (some km)].toArray 101 (0, 0)) :: T) ?_ ?_
   ·refine kJ [] F.follows 12 rfl [false, false, false, false, false, false, false, false, false, false, false, false] rfl ?_
    skip
    refine zG 0 rfl rfl rfl (kL rfl F.one75) ?_
    refine zG 1 rfl rfl rfl (qX rfl) ?_
    refine zG 2 rfl rfl rfl (qT rfl F.fi101_3 F.ti99) ?_
    refine zG 3 rfl rfl rfl (kL rfl F.one99) ?_
    refine zG 4 rfl rfl rfl (qJ rfl F.agg107 F.ti107) ?_
    refine zG 5 rfl rfl rfl (zDm KS rfl (l := kn) (t := (((⟨[z0, z1, z2], zw⟩ : Mor), d) : Spot)) (v := (.agg ([.int .i64 ((s.bst (n + 1) (⟨[z0, z1, z2], zw⟩ : Mor)).f : Int), .int .i64 ((s.bst (n + 1) (⟨[z0, z1, z2], zw⟩ : Mor)).w : Int), .bool (s.bst (n + 1) (⟨[z0, z1, z2], zw⟩ : Mor)).is] : List Value).toArray : Value)) (z := .agg [.int .i64 0, .int .i64 0, .bool false].toArray) (c := true) rfl rfl Try.underlying99 (hkn.spots hs) ⟨hm, by show d < _; omega⟩ hkn.nodup zero111 (InB.mem (b := km) (o := KS.obj kn)) (.inl (zVt hkn hdl hmet)) true (by simp [hmet])) ?_
    refine zG 6 rfl rfl rfl (jC rfl) ?_
    refine zG 7 rfl rfl rfl (qF rfl rfl) ?_
    refine zG 8 rfl rfl rfl (qF rfl rfl) ?_
    refine an1 9 rfl ?_
    refine jA rfl F.ti111 ?_
    intro b5
    refine zA (anb (an1 10 rfl ?_))
    refine zK rfl rfl F.ti111 rfl ?_
    refine zA (anb (zG 11 rfl rfl rfl (qI rfl) ?_))
    refine adn ?_
    exact qV b5 trivial sbn pkk
   ·rintro b5 -
    (try dsimp only)
    refine zC (zD (zD (zB (zF rfl rfl (zA (zC (jZ rfl (zD (zB (zX rfl rfl F.agg111 F.ti111 ?_))))))))))
    refine zK rfl rfl F.ti111 rfl ?_
    refine zA (zC (zZ (zU ?_)))
    exact zIw rfl (fun a w ha => by exact xU (ha := ha) rfl rfl F.agg111 F.ti111 rfl) (fun a w ha' => ⟨kn, ⟨hkn, fun x hx => .inl hx⟩, rfl, ha.back (ha'.pck pkk)⟩)
  ·refine wT (G := Nat) (fun _ => True) (fun b5 => (6, .bool false) :: [(2, .pointer (some ⟨b2, 0, none⟩)), (3, .pointer (some ⟨b3, 0, none⟩)), (4, .pointer (some ⟨b4, 0, none⟩)), (5, .pointer (some ⟨b5, 0, none⟩))]) (fun b5 => .blk b5 (.cells [.int .i64 0, .int .i64 0, .bool false].toArray 111 (0, 0)) :: .blk b4 (.cells [.int .i64 0, .int .i64 0, .bool false].toArray 111 (0, 0)) :: .blk b3 (.cells [.int .i64 (z0 : Int), .int .i64 (z1 : Int), .int .i64 (z2 : Int), .int .u8 (zw : Int), .int .i64 (d : Int)].toArray 107 (0, 0)) :: .blk b2 (.cells [.pointer (some ⟨sb, 0, none⟩)].toArray 75 (0, 0)) :: .blk km (KS.obj kn) :: .blk sb (.cells [.slice s.fA s.fs.length s.fc, .int .i64 (s.kiln : Int), .slice s.dA s.days.length s.dc, .func (.func s.fa) [].toArray s.capA.toArray, .func (.func s.fl) [].toArray s.capL.toArray, .map (some km)].toArray 101 (0, 0)) :: T) ?_ ?_
   ·refine kJ [] F.follows 12 rfl [false, false, false, false, false, false, false, false, false, false, false, false] rfl ?_
    skip
    refine zG 0 rfl rfl rfl (kL rfl F.one75) ?_
    refine zG 1 rfl rfl rfl (qX rfl) ?_
    refine zG 2 rfl rfl rfl (qT rfl F.fi101_3 F.ti99) ?_
    refine zG 3 rfl rfl rfl (kL rfl F.one99) ?_
    refine zG 4 rfl rfl rfl (qJ rfl F.agg107 F.ti107) ?_
    refine zG 5 rfl rfl rfl (zDm KS rfl (l := kn) (t := (((⟨[z0, z1, z2], zw⟩ : Mor), d) : Spot)) (v := .agg [.int .i64 0, .int .i64 0, .bool false].toArray) (z := .agg [.int .i64 0, .int .i64 0, .bool false].toArray) (c := true) rfl rfl Try.underlying99 (hkn.spots hs) ⟨hm, by show d < _; omega⟩ hkn.nodup zero111 (InB.mem (b := km) (o := KS.obj kn)) (.inr ⟨hmet, rfl⟩) false (by simp [hmet])) ?_
    refine zG 6 rfl rfl rfl (jC rfl) ?_
    refine zG 7 rfl rfl rfl (qF rfl rfl) ?_
    refine zG 8 rfl rfl rfl (qF rfl rfl) ?_
    refine an1 9 rfl ?_
    refine jA rfl F.ti111 ?_
    intro b5
    refine zA (anb (an1 10 rfl ?_))
    refine zK rfl rfl F.ti111 rfl ?_
    refine zA (anb (zG 11 rfl rfl rfl (qI rfl) ?_))
    refine adn ?_
    exact qV b5 trivial sbn pkk
   ·rintro b5 -
    (try dsimp only)
    refine zC (zD (zD (zB (zF rfl rfl (zA (zC (jL rfl (zQ (zC (zD (zD (zB (jE rfl rfl F.one75 ?_)))))))))))))
    refine vD rfl rfl (vW rfl rfl F.fi101_0 F.ti77 ?_)
    refine zX (o := 0) (l := [.slice s.fA s.fs.length s.fc, .int .i64 (s.kiln : Int), .slice s.dA s.days.length s.dc]) rfl rfl F.agg77 F.ti77 ?_
    refine jR (X := Nat) (vs := [_]) (p := fun _ => True) (val := fun b1 => .func (.func 84) [].toArray [.pointer (some ⟨b1, 0, none⟩)].toArray) (rs := fun b1 => [.blk b1 (.cells [.slice s.fA s.fs.length s.fc, .int .i64 (s.kiln : Int), .slice s.dA s.days.length s.dc].toArray 77 (0, 0))]) rfl rfl F.ent69 (fun a w ha => (zI0 s.fA s.dA s.fc s.days.length s.dc s.kiln s.fs w).mono (fun e w' h => by obtain ⟨b1, h1, h2⟩ := h; exact ⟨b1, trivial, h1, h2⟩)) ?_
    rintro b1 -
    dsimp only [List.cons_append, List.nil_append]
    have hlk : ∀ t v, look [(2, .pointer (some ⟨b2, 0, none⟩)), (3, .pointer (some ⟨b3, 0, none⟩)), (4, .pointer (some ⟨b4, 0, none⟩)), (5, .pointer (some ⟨b5, 0, none⟩))] t = some v -> look ((41, .func (.func 84) [].toArray [.pointer (some ⟨b1, 0, none⟩)].toArray) :: (40, .agg [.slice s.fA s.fs.length s.fc, .int .i64 (s.kiln : Int), .slice s.dA s.days.length s.dc].toArray) :: (39, .pointer (some ⟨sb, 0, none⟩)) :: (38, .pointer (some ⟨sb, 0, none⟩)) :: (37, .pointer (some ⟨sb, 0, none⟩)) :: (35, .bool false) :: (6, .bool false) :: [(2, .pointer (some ⟨b2, 0, none⟩)), (3, .pointer (some ⟨b3, 0, none⟩)), (4, .pointer (some ⟨b4, 0, none⟩)), (5, .pointer (some ⟨b5, 0, none⟩))]) t = some v := fun t v hv => Sub.look sbn t v hv
    refine zA (zC (zV (zDz (Y := Oc × List (Spot × Value)) (lb := [.pointer (some ⟨b1, 0, none⟩)]) (fun y => BI s kn n d y ∧ y.1 = s.bst (n + 1) (⟨[z0, z1, z2], zw⟩ : Mor)) (fun _ => w0.output) (fun _ => none) (fun _ => .normal) (fun y => .blk b5 (.cells [.int .i64 (y.1.f : Int), .int .i64 (y.1.w : Int), .bool y.1.is].toArray 111 (0, 0)) :: .blk km (KS.obj y.2) :: .blk b4 (.cells [.int .i64 0, .int .i64 0, .bool false].toArray 111 (0, 0)) :: .blk b3 (.cells [.int .i64 (z0 : Int), .int .i64 (z1 : Int), .int .i64 (z2 : Int), .int .u8 (zw : Int), .int .i64 (d : Int)].toArray 107 (0, 0)) :: .blk b2 (.cells [.pointer (some ⟨sb, 0, none⟩)].toArray 75 (0, 0)) :: .blk sb (.cells [.slice s.fA s.fs.length s.fc, .int .i64 (s.kiln : Int), .slice s.dA s.days.length s.dc, .func (.func s.fa) [].toArray s.capA.toArray, .func (.func s.fl) [].toArray s.capL.toArray, .map (some km)].toArray 101 (0, 0)) :: .blk b1 (.cells [.slice s.fA s.fs.length s.fc, .int .i64 (s.kiln : Int), .slice s.dA s.days.length s.dc].toArray 77 (0, 0)) :: T) rfl F.ent84 (fun _ _ => .inl ⟨rfl, rfl⟩) (fun r D rec a1 w1 hst hpe hps has hbo hsz hsl hR => ?_) (fun D y hy => ?_))))
    ·have hY : YSpL Try.prog B w0 r (fun _ => w0.output) (fun (x : Oc × List (Spot × Value)) => .blk r (.loop rec) :: .blk D (.deferred (some [])) :: .blk b5 (.cells [.int .i64 (x.1.f : Int), .int .i64 (x.1.w : Int), .bool x.1.is].toArray 111 (0, 0)) :: .blk km (KS.obj x.2) :: .blk b4 (.cells [.int .i64 0, .int .i64 0, .bool false].toArray 111 (0, 0)) :: .blk b3 (.cells [.int .i64 (z0 : Int), .int .i64 (z1 : Int), .int .i64 (z2 : Int), .int .u8 (zw : Int), .int .i64 (d : Int)].toArray 107 (0, 0)) :: .blk b2 (.cells [.pointer (some ⟨sb, 0, none⟩)].toArray 75 (0, 0)) :: .blk sb (.cells [.slice s.fA s.fs.length s.fc, .int .i64 (s.kiln : Int), .slice s.dA s.days.length s.dc, .func (.func s.fa) [].toArray s.capA.toArray, .func (.func s.fl) [].toArray s.capL.toArray, .map (some km)].toArray 101 (0, 0)) :: T) (BPre s kn n d) (BStep s kn n d (⟨[z0, z1, z2], zw⟩ : Mor)) := by
      intro x A ac acts hpre N ds fr hp ay wy hay
      obtain ⟨hI, hal⟩ := hpre
      obtain ⟨oc, kn1⟩ := x
      dsimp only at hay hI
      have ha2 := hay.permed (List.Perm.cons _ List.perm_append_comm)
      simp only [List.cons_append] at ha2
      have ha1 : At ⟨Try.prog, B, w0, N, ds⟩ fr (.blk r (.loop rec) :: .row 3 1 A acts.length ac (ints acts) :: .blk D (.deferred (some [])) :: .blk b5 (.cells [.int .i64 (oc.f : Int), .int .i64 (oc.w : Int), .bool oc.is].toArray 111 (0, 0)) :: .blk km (KS.obj kn1) :: (.blk b4 (.cells [.int .i64 0, .int .i64 0, .bool false].toArray 111 (0, 0)) :: .blk b3 (.cells [.int .i64 (z0 : Int), .int .i64 (z1 : Int), .int .i64 (z2 : Int), .int .u8 (zw : Int), .int .i64 (d : Int)].toArray 107 (0, 0)) :: .blk b2 (.cells [.pointer (some ⟨sb, 0, none⟩)].toArray 75 (0, 0)) :: .blk sb (.cells [.slice s.fA s.fs.length s.fc, .int .i64 (s.kiln : Int), .slice s.dA s.days.length s.dc, .func (.func s.fa) [].toArray s.capA.toArray, .func (.func s.fl) [].toArray s.capL.toArray, .map (some km)].toArray 101 (0, 0)) :: (T ++ hp))) ay wy := ha2.pck pkk
      refine zGr (X := Unit) (N := 57) (d := 42) (frC := [(2, .pointer (some ⟨b2, 0, none⟩)), (3, .pointer (some ⟨b3, 0, none⟩)), (4, .pointer (some ⟨b4, 0, none⟩)), (5, .pointer (some ⟨b5, 0, none⟩))]) (frB := fun _ => (7, .slice A acts.length ac) :: [(2, .pointer (some ⟨b2, 0, none⟩)), (3, .pointer (some ⟨b3, 0, none⟩)), (4, .pointer (some ⟨b4, 0, none⟩)), (5, .pointer (some ⟨b5, 0, none⟩))]) (hp1 := fun _ => .row 3 1 A acts.length ac (ints acts) :: .blk D (.deferred (some [])) :: .blk b5 (.cells [.int .i64 (oc.f : Int), .int .i64 (oc.w : Int), .bool oc.is].toArray 111 (0, 0)) :: .blk km (KS.obj kn1) :: (.blk b4 (.cells [.int .i64 0, .int .i64 0, .bool false].toArray 111 (0, 0)) :: .blk b3 (.cells [.int .i64 (z0 : Int), .int .i64 (z1 : Int), .int .i64 (z2 : Int), .int .u8 (zw : Int), .int .i64 (d : Int)].toArray 107 (0, 0)) :: .blk b2 (.cells [.pointer (some ⟨sb, 0, none⟩)].toArray 75 (0, 0)) :: .blk sb (.cells [.slice s.fA s.fs.length s.fc, .int .i64 (s.kiln : Int), .slice s.dA s.days.length s.dc, .func (.func s.fa) [].toArray s.capA.toArray, .func (.func s.fl) [].toArray s.capL.toArray, .map (some km)].toArray 101 (0, 0)) :: (T ++ hp))) ha1 hst hps hsz rfl (fun t u hu => hsl t u (hlk t u hu)) (by rw [has]; kernel_rfl) (by rw [hbo]; kernel_rfl) ?_ ?_
      ·intro K hK
       refine zDi has ?_
       refine zB (zE rfl rfl (zA ?_))
       exact fun a w ha => hK () a w ((ha.drop_slots sbn).pck pkk)
      ·intro _
       refine zDi hbo ?_
       refine zV (kJ [.b b5, .b km] F.follows 8 rfl [false, false, false, false, false, false, false, false] rfl ?_)
       refine zG 1 rfl rfl rfl (kL rfl F.one75) ?_
       refine zG 2 rfl rfl rfl (qJ rfl F.agg107 F.ti107) ?_
       refine zG 3 rfl rfl rfl (jC rfl) ?_
       refine vP 0 4 kr rfl rfl rfl rfl ?_ ?_
       ·refine zX rfl rfl F.agg111 F.ti111 ?_
        refine zA (anb (an1 4 rfl ?_))
        have hol : oc.f <= n + 1 ∧ oc.w <= 3 * n + 3 := hI.le
        have hsl2 := s.stp_le hs n (⟨[z0, z1, z2], zw⟩ : Mor) (l := acts) om
        refine qY (X := List (Spot × Value)) (first := []) (cap := []) (vs := [_, _, _]) (p := fun kn' => KnOk s kn' ∧ ∀ x ∈ kn', x ∈ kn1 ∨ d + 1 <= x.1.2) (val := fun _ => .agg [.int .i64 ((s.stp n (⟨[z0, z1, z2], zw⟩ : Mor) acts).f : Int), .int .i64 ((s.stp n (⟨[z0, z1, z2], zw⟩ : Mor) acts).w : Int), .bool (s.stp n (⟨[z0, z1, z2], zw⟩ : Mor) acts).is].toArray) (rs := fun kn' => .blk km (KS.obj kn') :: .blk r (.loop { rec with state := .busy }) :: .row 3 1 A acts.length ac (ints acts) :: .blk D (.deferred (some [])) :: .blk b5 (.cells [.int .i64 (oc.f : Int), .int .i64 (oc.w : Int), .bool oc.is].toArray 111 (0, 0)) :: .blk b4 (.cells [.int .i64 0, .int .i64 0, .bool false].toArray 111 (0, 0)) :: .blk b3 (.cells [.int .i64 (z0 : Int), .int .i64 (z1 : Int), .int .i64 (z2 : Int), .int .u8 (zw : Int), .int .i64 (d : Int)].toArray 107 (0, 0)) :: .blk b2 (.cells [.pointer (some ⟨sb, 0, none⟩)].toArray 75 (0, 0)) :: .blk sb (.cells [.slice s.fA s.fs.length s.fc, .int .i64 (s.kiln : Int), .slice s.dA s.days.length s.dc, .func (.func s.fa) [].toArray s.capA.toArray, .func (.func s.fl) [].toArray s.capL.toArray, .map (some km)].toArray 101 (0, 0)) :: (T ++ hp)) rfl rfl rfl F.ent70 (fun a w ha => ?_) ?_
        ·refine (zKw hs ih (T := .blk r (.loop { rec with state := .busy }) :: .row 3 1 A acts.length ac (ints acts) :: .blk D (.deferred (some [])) :: .blk b5 (.cells [.int .i64 (oc.f : Int), .int .i64 (oc.w : Int), .bool oc.is].toArray 111 (0, 0)) :: .blk b4 (.cells [.int .i64 0, .int .i64 0, .bool false].toArray 111 (0, 0)) :: .blk b3 (.cells [.int .i64 (z0 : Int), .int .i64 (z1 : Int), .int .i64 (z2 : Int), .int .u8 (zw : Int), .int .i64 (d : Int)].toArray 107 (0, 0)) :: .blk b2 (.cells [.pointer (some ⟨sb, 0, none⟩)].toArray 75 (0, 0)) :: (T ++ hp)) (kn := kn1) (km := km) (sb := sb) (ac := ac) hd hm hz0 hz1 hz2 hzw hal hI.ok (hE.more (fun r hr => by simp [hr])) ((Stays.row (c := ac)).more (fun r hr => by simp at hr; simp [hr])) (ha.pck pkk)).mono ?_
         rintro e w' ⟨kn2, h1, h2, h3⟩
         exact ⟨kn2, h1, h2, h3.pck pkk⟩
        rintro kn2 ⟨hkn2, hlt2⟩
        dsimp only [Srch.cells]
        generalize hoo : s.stp n (⟨[z0, z1, z2], zw⟩ : Mor) acts = os at hsl2 ⊢
        refine zA (anb (an1 5 rfl ?_))
        refine yX (vs := [(0, .agg ([.int .i64 (os.f : Int), .int .i64 (os.w : Int), .bool os.is] : List Value).toArray)]) [.int .i64 (os.f : Int), .int .i64 (os.w : Int), .bool os.is] rfl rfl Try.underlying158 F.ti111 rfl rfl rfl (Lit.agg (l1 := [.int .i64 (os.f : Int), .int .i64 (os.w : Int), .bool os.is]) (l := []) rfl rfl) ?_
        intro b48
        refine zA (anb (an1 6 rfl ?_))
        refine zW (v := .agg [.int .i64 ((lst2 oc os).f : Int), .int .i64 ((lst2 oc os).w : Int), .bool (lst2 oc os).is].toArray) (vs := [_, _, _]) rfl rfl F.ent82 (fun a w ha => zIo _ _ os oc om om om om w (zL2 ha (InB.mem (b := b48) (o := .cells (Oc.cells os).toArray 111 (0, 0))))) ?_
        refine zA (anb (an1 7 rfl ?_))
        refine zK rfl rfl F.ti111 rfl ?_
        refine zA (anb (adn (zO (zBd (hp' := .blk r (.loop { rec with state := .busy }) :: .blk D (.deferred (some [])) :: .blk b5 (.cells [.int .i64 ((lst2 oc os).f : Int), .int .i64 ((lst2 oc os).w : Int), .bool (lst2 oc os).is].toArray 111 (0, 0)) :: .blk km (KS.obj kn2) :: (.blk b4 (.cells [.int .i64 0, .int .i64 0, .bool false].toArray 111 (0, 0)) :: .blk b3 (.cells [.int .i64 (z0 : Int), .int .i64 (z1 : Int), .int .i64 (z2 : Int), .int .u8 (zw : Int), .int .i64 (d : Int)].toArray 107 (0, 0)) :: .blk b2 (.cells [.pointer (some ⟨sb, 0, none⟩)].toArray 75 (0, 0)) :: .blk sb (.cells [.slice s.fA s.fs.length s.fc, .int .i64 (s.kiln : Int), .slice s.dA s.days.length s.dc, .func (.func s.fa) [].toArray s.capA.toArray, .func (.func s.fl) [].toArray s.capL.toArray, .map (some km)].toArray 101 (0, 0)) :: (T ++ hp))) pkk ?_))))
        refine wK hst hpe (fun a w ha => ⟨(lst2 oc os, kn2), true, ⟨rfl, ⟨zFl hol hsl2, hkn2, fun e he => ?_⟩, by rw [<- hoo]⟩, rfl, ?_⟩)
        ·rcases hlt2 e he with h | h
         ·exact hI.late e h
         ·exact .inr h
        have ha3 := (hay.backO (x := w0.output) ha).pck (hp' := .blk r (.loop rec) :: .blk D (.deferred (some [])) :: .blk b5 (.cells [.int .i64 ((lst2 oc os).f : Int), .int .i64 ((lst2 oc os).w : Int), .bool (lst2 oc os).is].toArray 111 (0, 0)) :: .blk km (KS.obj kn2) :: (.blk b4 (.cells [.int .i64 0, .int .i64 0, .bool false].toArray 111 (0, 0)) :: .blk b3 (.cells [.int .i64 (z0 : Int), .int .i64 (z1 : Int), .int .i64 (z2 : Int), .int .u8 (zw : Int), .int .i64 (d : Int)].toArray 107 (0, 0)) :: .blk b2 (.cells [.pointer (some ⟨sb, 0, none⟩)].toArray 75 (0, 0)) :: .blk sb (.cells [.slice s.fA s.fs.length s.fc, .int .i64 (s.kiln : Int), .slice s.dA s.days.length s.dc, .func (.func s.fa) [].toArray s.capA.toArray, .func (.func s.fl) [].toArray s.capL.toArray, .map (some km)].toArray 101 (0, 0)) :: (T ++ hp))) pkk
        exact ha3.permed (by simpa using (List.perm_append_comm (l₁ := .blk r (.loop rec) :: .blk D (.deferred (some [])) :: .blk b5 (.cells [.int .i64 ((lst2 oc os).f : Int), .int .i64 ((lst2 oc os).w : Int), .bool (lst2 oc os).is].toArray 111 (0, 0)) :: .blk km (KS.obj kn2) :: (.blk b4 (.cells [.int .i64 0, .int .i64 0, .bool false].toArray 111 (0, 0)) :: .blk b3 (.cells [.int .i64 (z0 : Int), .int .i64 (z1 : Int), .int .i64 (z2 : Int), .int .u8 (zw : Int), .int .i64 (d : Int)].toArray 107 (0, 0)) :: .blk b2 (.cells [.pointer (some ⟨sb, 0, none⟩)].toArray 75 (0, 0)) :: .blk sb (.cells [.slice s.fA s.fs.length s.fc, .int .i64 (s.kiln : Int), .slice s.dA s.days.length s.dc, .func (.func s.fa) [].toArray s.capA.toArray, .func (.func s.fl) [].toArray s.capL.toArray, .map (some km)].toArray 101 (0, 0)) :: T)) (l₂ := hp)))
       ·have hol : oc.f <= n + 1 ∧ oc.w <= 3 * n + 3 := hI.le
        have hsl2 := s.stp_le hs n (⟨[z0, z1, z2], zw⟩ : Mor) (l := acts) om
        refine qY (X := List (Spot × Value)) (first := []) (cap := []) (vs := [_, _, _]) (p := fun kn' => KnOk s kn' ∧ ∀ x ∈ kn', x ∈ kn1 ∨ d + 1 <= x.1.2) (val := fun _ => .agg [.int .i64 ((s.stp n (⟨[z0, z1, z2], zw⟩ : Mor) acts).f : Int), .int .i64 ((s.stp n (⟨[z0, z1, z2], zw⟩ : Mor) acts).w : Int), .bool (s.stp n (⟨[z0, z1, z2], zw⟩ : Mor) acts).is].toArray) (rs := fun kn' => .blk km (KS.obj kn') :: .blk r (.loop { rec with state := .busy }) :: .row 3 1 A acts.length ac (ints acts) :: .blk D (.deferred (some [])) :: .blk b5 (.cells [.int .i64 (oc.f : Int), .int .i64 (oc.w : Int), .bool oc.is].toArray 111 (0, 0)) :: .blk b4 (.cells [.int .i64 0, .int .i64 0, .bool false].toArray 111 (0, 0)) :: .blk b3 (.cells [.int .i64 (z0 : Int), .int .i64 (z1 : Int), .int .i64 (z2 : Int), .int .u8 (zw : Int), .int .i64 (d : Int)].toArray 107 (0, 0)) :: .blk b2 (.cells [.pointer (some ⟨sb, 0, none⟩)].toArray 75 (0, 0)) :: .blk sb (.cells [.slice s.fA s.fs.length s.fc, .int .i64 (s.kiln : Int), .slice s.dA s.days.length s.dc, .func (.func s.fa) [].toArray s.capA.toArray, .func (.func s.fl) [].toArray s.capL.toArray, .map (some km)].toArray 101 (0, 0)) :: (T ++ hp)) rfl rfl rfl F.ent70 (fun a w ha => ?_) ?_
        ·refine (zKw hs ih (T := .blk r (.loop { rec with state := .busy }) :: .row 3 1 A acts.length ac (ints acts) :: .blk D (.deferred (some [])) :: .blk b5 (.cells [.int .i64 (oc.f : Int), .int .i64 (oc.w : Int), .bool oc.is].toArray 111 (0, 0)) :: .blk b4 (.cells [.int .i64 0, .int .i64 0, .bool false].toArray 111 (0, 0)) :: .blk b3 (.cells [.int .i64 (z0 : Int), .int .i64 (z1 : Int), .int .i64 (z2 : Int), .int .u8 (zw : Int), .int .i64 (d : Int)].toArray 107 (0, 0)) :: .blk b2 (.cells [.pointer (some ⟨sb, 0, none⟩)].toArray 75 (0, 0)) :: (T ++ hp)) (kn := kn1) (km := km) (sb := sb) (ac := ac) hd hm hz0 hz1 hz2 hzw hal hI.ok (hE.more (fun r hr => by simp [hr])) ((Stays.row (c := ac)).more (fun r hr => by simp at hr; simp [hr])) (ha.pck pkk)).mono ?_
         rintro e w' ⟨kn2, h1, h2, h3⟩
         exact ⟨kn2, h1, h2, h3.pck pkk⟩
        rintro kn2 ⟨hkn2, hlt2⟩
        dsimp only [Srch.cells]
        generalize hoo : s.stp n (⟨[z0, z1, z2], zw⟩ : Mor) acts = os at hsl2 ⊢
        refine zA (anb (vP 0 5 kr rfl rfl rfl rfl ?_ ?_))
        ·refine zX rfl rfl F.agg111 F.ti111 ?_
         refine zA (anb (an1 5 rfl ?_))
         refine yX (vs := [(0, .agg ([.int .i64 (os.f : Int), .int .i64 (os.w : Int), .bool os.is] : List Value).toArray)]) [.int .i64 (os.f : Int), .int .i64 (os.w : Int), .bool os.is] rfl rfl Try.underlying158 F.ti111 rfl rfl rfl (Lit.agg (l1 := [.int .i64 (os.f : Int), .int .i64 (os.w : Int), .bool os.is]) (l := []) rfl rfl) ?_
         intro b48
         refine zA (anb (an1 6 rfl ?_))
         refine zW (v := .agg [.int .i64 ((lst2 oc os).f : Int), .int .i64 ((lst2 oc os).w : Int), .bool (lst2 oc os).is].toArray) (vs := [_, _, _]) rfl rfl F.ent82 (fun a w ha => zIo _ _ os oc om om om om w (zL2 ha (InB.mem (b := b48) (o := .cells (Oc.cells os).toArray 111 (0, 0))))) ?_
         refine zA (anb (an1 7 rfl ?_))
         refine zK rfl rfl F.ti111 rfl ?_
         refine zA (anb (adn (zO (zBd (hp' := .blk r (.loop { rec with state := .busy }) :: .blk D (.deferred (some [])) :: .blk b5 (.cells [.int .i64 ((lst2 oc os).f : Int), .int .i64 ((lst2 oc os).w : Int), .bool (lst2 oc os).is].toArray 111 (0, 0)) :: .blk km (KS.obj kn2) :: (.blk b4 (.cells [.int .i64 0, .int .i64 0, .bool false].toArray 111 (0, 0)) :: .blk b3 (.cells [.int .i64 (z0 : Int), .int .i64 (z1 : Int), .int .i64 (z2 : Int), .int .u8 (zw : Int), .int .i64 (d : Int)].toArray 107 (0, 0)) :: .blk b2 (.cells [.pointer (some ⟨sb, 0, none⟩)].toArray 75 (0, 0)) :: .blk sb (.cells [.slice s.fA s.fs.length s.fc, .int .i64 (s.kiln : Int), .slice s.dA s.days.length s.dc, .func (.func s.fa) [].toArray s.capA.toArray, .func (.func s.fl) [].toArray s.capL.toArray, .map (some km)].toArray 101 (0, 0)) :: (T ++ hp))) pkk ?_))))
         refine wK hst hpe (fun a w ha => ⟨(lst2 oc os, kn2), true, ⟨rfl, ⟨zFl hol hsl2, hkn2, fun e he => ?_⟩, by rw [<- hoo]⟩, rfl, ?_⟩)
         ·rcases hlt2 e he with h | h
          ·exact hI.late e h
          ·exact .inr h
         have ha3 := (hay.backO (x := w0.output) ha).pck (hp' := .blk r (.loop rec) :: .blk D (.deferred (some [])) :: .blk b5 (.cells [.int .i64 ((lst2 oc os).f : Int), .int .i64 ((lst2 oc os).w : Int), .bool (lst2 oc os).is].toArray 111 (0, 0)) :: .blk km (KS.obj kn2) :: (.blk b4 (.cells [.int .i64 0, .int .i64 0, .bool false].toArray 111 (0, 0)) :: .blk b3 (.cells [.int .i64 (z0 : Int), .int .i64 (z1 : Int), .int .i64 (z2 : Int), .int .u8 (zw : Int), .int .i64 (d : Int)].toArray 107 (0, 0)) :: .blk b2 (.cells [.pointer (some ⟨sb, 0, none⟩)].toArray 75 (0, 0)) :: .blk sb (.cells [.slice s.fA s.fs.length s.fc, .int .i64 (s.kiln : Int), .slice s.dA s.days.length s.dc, .func (.func s.fa) [].toArray s.capA.toArray, .func (.func s.fl) [].toArray s.capL.toArray, .map (some km)].toArray 101 (0, 0)) :: (T ++ hp))) pkk
         exact ha3.permed (by simpa using (List.perm_append_comm (l₁ := .blk r (.loop rec) :: .blk D (.deferred (some [])) :: .blk b5 (.cells [.int .i64 ((lst2 oc os).f : Int), .int .i64 ((lst2 oc os).w : Int), .bool (lst2 oc os).is].toArray 111 (0, 0)) :: .blk km (KS.obj kn2) :: (.blk b4 (.cells [.int .i64 0, .int .i64 0, .bool false].toArray 111 (0, 0)) :: .blk b3 (.cells [.int .i64 (z0 : Int), .int .i64 (z1 : Int), .int .i64 (z2 : Int), .int .u8 (zw : Int), .int .i64 (d : Int)].toArray 107 (0, 0)) :: .blk b2 (.cells [.pointer (some ⟨sb, 0, none⟩)].toArray 75 (0, 0)) :: .blk sb (.cells [.slice s.fA s.fs.length s.fc, .int .i64 (s.kiln : Int), .slice s.dA s.days.length s.dc, .func (.func s.fa) [].toArray s.capA.toArray, .func (.func s.fl) [].toArray s.capL.toArray, .map (some km)].toArray 101 (0, 0)) :: T)) (l₂ := hp)))
        ·refine yX (vs := [(0, .agg ([.int .i64 (os.f : Int), .int .i64 (os.w : Int), .bool os.is] : List Value).toArray)]) [.int .i64 (os.f : Int), .int .i64 (os.w : Int), .bool os.is] rfl rfl Try.underlying158 F.ti111 rfl rfl rfl (Lit.agg (l1 := [.int .i64 (os.f : Int), .int .i64 (os.w : Int), .bool os.is]) (l := []) rfl rfl) ?_
         intro b48
         refine zA (anb (an1 0 rfl ?_))
         refine zX rfl rfl F.agg111 F.ti111 ?_
         refine zA (anb (an1 6 rfl ?_))
         refine zW (v := .agg [.int .i64 ((lst2 oc os).f : Int), .int .i64 ((lst2 oc os).w : Int), .bool (lst2 oc os).is].toArray) (vs := [_, _, _]) rfl rfl F.ent82 (fun a w ha => zIo _ _ os oc om om om om w (zL2 ha (InB.mem (b := b48) (o := .cells (Oc.cells os).toArray 111 (0, 0))))) ?_
         refine zA (anb (an1 7 rfl ?_))
         refine zK rfl rfl F.ti111 rfl ?_
         refine zA (anb (adn (zO (zBd (hp' := .blk r (.loop { rec with state := .busy }) :: .blk D (.deferred (some [])) :: .blk b5 (.cells [.int .i64 ((lst2 oc os).f : Int), .int .i64 ((lst2 oc os).w : Int), .bool (lst2 oc os).is].toArray 111 (0, 0)) :: .blk km (KS.obj kn2) :: (.blk b4 (.cells [.int .i64 0, .int .i64 0, .bool false].toArray 111 (0, 0)) :: .blk b3 (.cells [.int .i64 (z0 : Int), .int .i64 (z1 : Int), .int .i64 (z2 : Int), .int .u8 (zw : Int), .int .i64 (d : Int)].toArray 107 (0, 0)) :: .blk b2 (.cells [.pointer (some ⟨sb, 0, none⟩)].toArray 75 (0, 0)) :: .blk sb (.cells [.slice s.fA s.fs.length s.fc, .int .i64 (s.kiln : Int), .slice s.dA s.days.length s.dc, .func (.func s.fa) [].toArray s.capA.toArray, .func (.func s.fl) [].toArray s.capL.toArray, .map (some km)].toArray 101 (0, 0)) :: (T ++ hp))) pkk ?_))))
         refine wK hst hpe (fun a w ha => ⟨(lst2 oc os, kn2), true, ⟨rfl, ⟨zFl hol hsl2, hkn2, fun e he => ?_⟩, by rw [<- hoo]⟩, rfl, ?_⟩)
         ·rcases hlt2 e he with h | h
          ·exact hI.late e h
          ·exact .inr h
         have ha3 := (hay.backO (x := w0.output) ha).pck (hp' := .blk r (.loop rec) :: .blk D (.deferred (some [])) :: .blk b5 (.cells [.int .i64 ((lst2 oc os).f : Int), .int .i64 ((lst2 oc os).w : Int), .bool (lst2 oc os).is].toArray 111 (0, 0)) :: .blk km (KS.obj kn2) :: (.blk b4 (.cells [.int .i64 0, .int .i64 0, .bool false].toArray 111 (0, 0)) :: .blk b3 (.cells [.int .i64 (z0 : Int), .int .i64 (z1 : Int), .int .i64 (z2 : Int), .int .u8 (zw : Int), .int .i64 (d : Int)].toArray 107 (0, 0)) :: .blk b2 (.cells [.pointer (some ⟨sb, 0, none⟩)].toArray 75 (0, 0)) :: .blk sb (.cells [.slice s.fA s.fs.length s.fc, .int .i64 (s.kiln : Int), .slice s.dA s.days.length s.dc, .func (.func s.fa) [].toArray s.capA.toArray, .func (.func s.fl) [].toArray s.capL.toArray, .map (some km)].toArray 101 (0, 0)) :: (T ++ hp))) pkk
         exact ha3.permed (by simpa using (List.perm_append_comm (l₁ := .blk r (.loop rec) :: .blk D (.deferred (some [])) :: .blk b5 (.cells [.int .i64 ((lst2 oc os).f : Int), .int .i64 ((lst2 oc os).w : Int), .bool (lst2 oc os).is].toArray 111 (0, 0)) :: .blk km (KS.obj kn2) :: (.blk b4 (.cells [.int .i64 0, .int .i64 0, .bool false].toArray 111 (0, 0)) :: .blk b3 (.cells [.int .i64 (z0 : Int), .int .i64 (z1 : Int), .int .i64 (z2 : Int), .int .u8 (zw : Int), .int .i64 (d : Int)].toArray 107 (0, 0)) :: .blk b2 (.cells [.pointer (some ⟨sb, 0, none⟩)].toArray 75 (0, 0)) :: .blk sb (.cells [.slice s.fA s.fs.length s.fc, .int .i64 (s.kiln : Int), .slice s.dA s.days.length s.dc, .func (.func s.fa) [].toArray s.capA.toArray, .func (.func s.fl) [].toArray s.capL.toArray, .map (some km)].toArray 101 (0, 0)) :: T)) (l₂ := hp)))
     refine (zGx (X := Oc × List (Spot × Value)) (o := fun _ => w0.output) (T := (fun (x : Oc × List (Spot × Value)) => .blk r (.loop rec) :: .blk D (.deferred (some [])) :: .blk b5 (.cells [.int .i64 (x.1.f : Int), .int .i64 (x.1.w : Int), .bool x.1.is].toArray 111 (0, 0)) :: .blk km (KS.obj x.2) :: .blk b4 (.cells [.int .i64 0, .int .i64 0, .bool false].toArray 111 (0, 0)) :: .blk b3 (.cells [.int .i64 (z0 : Int), .int .i64 (z1 : Int), .int .i64 (z2 : Int), .int .u8 (zw : Int), .int .i64 (d : Int)].toArray 107 (0, 0)) :: .blk b2 (.cells [.pointer (some ⟨sb, 0, none⟩)].toArray 75 (0, 0)) :: .blk sb (.cells [.slice s.fA s.fs.length s.fc, .int .i64 (s.kiln : Int), .slice s.dA s.days.length s.dc, .func (.func s.fa) [].toArray s.capA.toArray, .func (.func s.fl) [].toArray s.capL.toArray, .map (some km)].toArray 101 (0, 0)) :: T)) (hp := []) hs3 hY (x := (noOc, kn)) (zM9 _ _ (fun l hl => by have := yM _ _ l hl; simpa using this) hI0) (hR.pck pkk)).mono (fun e w2 h => ?_)
     obtain ⟨x', b, hr, he, h4⟩ := h
     obtain ⟨_, hI2, hv2⟩ := zWf hr hI0
     refine ⟨⟨_, he⟩, x', ⟨hI2, hv2⟩, ?_⟩
     have e : rec = { rec with state := .ready, pending := none } := by
      obtain ⟨st, pe, _, _, _, _, _, _⟩ := rec
      simp only at hst hpe
      subst hst; subst hpe
      rfl
     rw [e] at h4
     exact h4.pck pkk
    ·obtain ⟨oy, kny⟩ := y
     obtain ⟨hIy, hoy⟩ := hy
     dsimp only at hIy hoy ⊢
     refine zO (zC (zD (kJ [.b km] F.follows 7 rfl [false, false, false, false, false, false, false] rfl ?_)))
     have hnot : (((⟨[z0, z1, z2], zw⟩ : Mor), d) : Spot) ∉ kny.map (·.1) := fun h => by
      obtain ⟨e, he, e1⟩ := List.mem_map.1 h
      rcases hIy.late e he with h1 | h1
      ·exact hmet (List.mem_map.2 ⟨e, h1, e1⟩)
      ·rw [e1] at h1; dsimp only at h1; omega
     refine zG 0 rfl rfl rfl (kL rfl F.one75) ?_
     refine zG 1 rfl rfl rfl (qX rfl) ?_
     refine zG 2 rfl rfl rfl (qT rfl F.fi101_3 F.ti99) ?_
     refine zG 3 rfl rfl rfl (kL rfl F.one99) ?_
     refine zG 4 rfl rfl rfl (qJ rfl F.agg107 F.ti107) ?_
     refine zG 5 rfl rfl rfl (qJ rfl F.agg111 F.ti111) ?_
     refine an1 6 rfl ?_
     refine zF3 KS rfl (l := kny) (t := (((⟨[z0, z1, z2], zw⟩ : Mor), d) : Spot)) (v := .agg [.int .i64 (oy.f : Int), .int .i64 (oy.w : Int), .bool oy.is].toArray) (.inl rfl) rfl rfl rfl Try.underlying99 (hIy.ok.spots hs) ⟨hm, by show d < _; omega⟩ hnot (by repeat (first | exact Upd.head _ | apply Upd.tail)) ?_
     refine zA (anb (adn (zC (zD (zB (zX rfl rfl F.agg111 F.ti111 ?_))))))
     refine zK rfl rfl F.ti111 rfl ?_
     refine zA (zC (zZ ?_))
     have hadd := hIy.ok.add hm (show d < s.days.length by omega) hnot
     rw [hdl, <- hoy] at hadd
     exact zS0 .ret (.inl rfl) (.agg [.int .i64 (oy.f : Int), .int .i64 (oy.w : Int), .bool oy.is].toArray) (fun a w ha => by exact xU (ha := ha) rfl rfl F.agg111 F.ti111 rfl) (fun a w ha' => ⟨kny ++ [((((⟨[z0, z1, z2], zw⟩ : Mor), d) : Spot), .agg [.int .i64 (oy.f : Int), .int .i64 (oy.w : Int), .bool oy.is].toArray)], ⟨hadd, fun x hx => (List.mem_append.1 hx).elim (fun h => (hIy.late x h).imp id (fun h => by omega)) (fun h => .inr (by simp at h; rw [h]; exact Nat.le_refl _))⟩, by rw [<- hoy]; rfl, ha.back (ha'.pck pkk)⟩)

end Go.Proofs.Yteppiphdbondeaa.N
