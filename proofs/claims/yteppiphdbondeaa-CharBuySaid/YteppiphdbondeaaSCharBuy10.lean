/- Parts of the walk of the law CharBuy: Sx7, ChG, T30, ChU, T40, ChRow, RowC, RowC2. -/
import Derived.Test.YteppiphdbondeaaSCharBuy09
import Derived.Test.YteppiphdbondeaaSCharBuy05
import Derived.DeepKeys3
import Derived.Test.YteppiphdbondeaaSCharBuy08
import Derived.Test.YteppiphdbondeaaProg
import Derived.ArgAppend
import Derived.Deep.Upon
import Derived.Test.YteppiphdbondeaaSCharBuy03
import Derived.Test.YteppiphdbondeaaRows
import Derived.ChangeSame
import Derived.ChangeVars
import Derived.JoinedOf
import Derived.RowKit
import Derived.RowKitTokens
import Derived.WitnessAt
import Derived.Stop.Joined
import Derived.ProofKit
import Derived.SizedLaws
import Derived.OpenShut
import Derived.Conc.Holds
namespace Go.Proofs.Yteppiphdbondeaa.N
open Go Go.RowKit Go.Proofs
set_option linter.unusedSectionVars false
variable [I : Sys]
variable {C : Ctx} {fr : List (Nat × Value)} {hp : List Res} {ops : Array Oper} {Q : Exit -> Act -> World -> Prop} {rest : List Oper} {d : Nat} {ty : TypeId} {pos : String} {after : Array Edge}
theorem zCz {α : Type} {cells : α -> List Value} {size : Nat} (hs : ∀ x, (cells x).length = size) (l : List α) : (l.flatMap cells).length = l.length * size := by
 induction l with
 | nil => simp
 | cons x l ih => rw [List.flatMap_cons, List.length_append, hs, ih, List.length_cons, Nat.succ_mul]; omega
theorem RdL.cells_at {α : Type} {cells : α -> List Value} {size : Nat} (hs : ∀ x, (cells x).length = size) (h0 : 0 < size) {w : World} {p : Addr} {l : List α} (h : RdL cells size w (some p) l) {j : Nat} {u : Value} (hu : (l.flatMap cells)[j]? = some u) : w.cell? (p.add j) = some u := by
 have hj : j < l.length * size := by
  rw [<- zCz hs]
  rcases Nat.lt_or_ge j (l.flatMap cells).length with h1 | h1
  ·exact h1
  ·rw [List.getElem?_eq_none h1] at hu; cases hu
 have hk : j / size < l.length := Nat.div_lt_of_lt_mul (by rw [Nat.mul_comm]; exact hj)
 obtain ⟨b, o, h1, _, h3⟩ := h (Nat.lt_of_le_of_lt (Nat.zero_le _) hk)
 cases h1
 have hd := Nat.div_add_mod j size
 rw [Nat.mul_comm] at hd
 have hm : j % size < size := Nat.mod_lt _ h0
 have hx : l[j / size]? = some l[j / size] := List.getElem?_eq_getElem hk
 have hjs : j % size < (cells l[j / size]).length := by rw [hs]; exact hm
 have hc : (cells l[j / size])[j % size]? = some (cells l[j / size])[j % size] := List.getElem?_eq_getElem hjs
 have h4 := zCx hs l _ _ hx _ _ hc
 rw [hd, hu] at h4
 have h5 := h3 _ _ hx _ _ hc
 rw [qT]
 rw [Nat.add_assoc, hd] at h5
 rw [h5]
 exact h4.symm
theorem qW {α : Type} {cells : α -> List Value} {x y : Operand} {t e : TypeId} {A : Option Addr} {p : Addr} {n c m cb size bytes : Nat} {xs : List Value} {l : List α} {z : Value} {hp' : Option Addr -> Nat -> List Res} (hd : Nat.blt d C.N = true)
  (hx : ev fr x = some (.slice A n c)) (hy : ev fr y = some (.slice (some p) m cb)) (ht : C.P.underlying t = some (.slice e)) (hi : TI C.P e z size bytes) (hzs : z.cells.size = size) (hs0 : Nat.blt 0 size = true) (hs : ∀ x, (cells x).length = size) (ho1 : ∀ x, ∀ u ∈ cells x, u.oneCell' = true)
  (hnews : ∀ a w, At C fr hp a w -> RdL cells size w (some p) l) (hl : l.length = m) [hr : InR A e size n c xs hp] [hu : ∀ A' c', UpR A e size n c xs (.row e size A' (n + m) c' (xs ++ l.flatMap cells)) hp (hp' A' c')]
  (h63 : n + m <= maxLen) (hbytes : (n + m) * bytes <= 140737488355328)
  (k : ∀ A' c', Lst C ops Q rest ((d, .slice A' (n + m) c') :: fr) (hp' A' c')) :
  Lst C ops Q (⟨some d, .call { callee := .builtin .append, args := #[x, y], argTypes := #[t, t] }, ty, pos, after, none⟩ :: rest) fr hp := by
 have ho : ∀ u ∈ l.flatMap cells, u.oneCell' = true := by
  intro u hu'
  obtain ⟨x, _, hx⟩ := List.mem_flatMap.1 hu'
  exact ho1 x u hx
 have hi' := hi
 obtain ⟨i, hi1, hi2, hi3, hi4⟩ := hi'
 have h0 := jZ hs0
 subst hi4
 refine zEg hd hx hy ht hi hzs hs0 (fun a w ha j u hu => (hnews a w ha).cells_at hs h0 hu) (by rw [zCz hs, hl]) ho (fun w v' w' hown hn hrun => ?_) h63 hbytes k
 exact zB9 ht hi1 hi2 (hi3 ▸ hown) (by rw [zCz hs, hi3, hl]) hn ho h63 hbytes hrun
end Go.Proofs.Yteppiphdbondeaa.N
namespace Go.Proofs.Yteppiphdbondeaa.N
open Go Go.RowKit Go.Proofs
set_option linter.unusedSectionVars false
theorem Grew.less {w w' : World} {rs : List Res} (h : Grew w w' rs) : Grew w w' [] := ⟨h.1, fun _ h => by simp at h, by simp⟩
theorem wT (x : Flt) : ∀ u ∈ x.cells, u.oneCell' = true := by
 intro u hu
 simp [Flt.cells] at hu
 rcases hu with h | h | h | h <;> subst h <;> simp [Value.oneCell']
def oF (o : Oc) : Nat := if o.is then o.f else 0
def oE (o : Oc) : Nat := if o.is then 0 else 11
section
variable [I : Sys] {C : Ctx} {fr : List (Nat × Value)} {hp : List Res} {a : Act} {w : World}
theorem zUj (ha : At C fr hp a w) {A : Option Addr} {e size n c : Nat} {xs : List Value} [hr : InR A e size n c xs hp] : n <= c := by
 rcases (ha.own _ hr.mem).2 with ⟨h1, h2⟩ | ⟨g, cap, cur, hv, h1, h2, h3, _, h5, _⟩
 ·omega
 ·injection hv with _ _ e3
  omega
theorem zKx (ha : At C fr hp a w) {A : Option Addr} {c n : Nat} {l : List Nat} [hr : InR A 3 1 n c (ints l) hp] (hn : n = l.length) : RdL ncell 1 w A l :=
 qV ha (cells := ncell) (size := 1) (e := 3) (c := c) (n := n) (l := l) (fun _ => rfl) (by rw [<- zQp]; exact hr.mem) hn
theorem zB3 (ha : At C fr hp a w) {A : Option Addr} {c n : Nat} {l : List Flt} [hr : InR A 49 4 n c (l.flatMap Flt.cells) hp] (hn : n = l.length) : RdL Flt.cells 4 w A l :=
 qV ha (cells := Flt.cells) (size := 4) (e := 49) (c := c) (n := n) (l := l) (fun _ => rfl) hr.mem hn
theorem zSi {l : List Oper} {ops : Array Oper} {Q : Exit -> Act -> World -> Prop} (A : Option Addr) {e size n c : Nat} {xs : List Value} [hr : InR A e size n c xs hp] (k : n <= c -> Lst C ops Q l fr hp) : Lst C ops Q l fr hp := fun a w ha => k (zUj (A := A) ha) a w ha
theorem zP6 {fA dA : Option Addr} {fc dc kiln : Nat} {fs : List Flt} {days : List Nat} (hc : ChV fs kiln days) (w : World) (hF : RdL Flt.cells 4 w fA fs) (hD : RdL ncell 1 w dA days) :
  Calls Try.prog 15 #[.agg (CA fA fs.length fc kiln dA days.length dc).toArray] w fun e w' => ∃ (oA : Option Addr) (on oc : Nat), e = .returned (.tuple #[.slice oA on oc, .int .i64 ((oF (bstA fs kiln days) : Nat) : Int), .int .i64 ((oE (bstA fs kiln days) : Nat) : Int)]) ∧ Grew w w' [] := by
 refine (zL0 hc w hF hD).mono ?_
 rintro e w' ⟨oA, oc, mr, hcase, hg⟩
 rcases hcase with ⟨h1, _, h3⟩ | ⟨h1, _, h3⟩
 ·exact ⟨oA, mr.length, oc, by rw [h3]; simp [oF, oE, h1], hg.less⟩
 ·exact ⟨none, 0, 0, by rw [h3]; simp [oF, oE, h1], hg.less⟩
end
end Go.Proofs.Yteppiphdbondeaa.N
namespace Go.Proofs.Yteppiphdbondeaa.N
open Go Go.RowKit Go.Proofs
set_option linter.unusedSectionVars false
variable [I : Sys]
theorem F.ent13 : Enters Try.prog 13 := jE Try.func13 rfl (by kernel_rfl)
theorem F.ent20 : Enters Try.prog 20 := jE Try.func20 rfl (by kernel_rfl)
end Go.Proofs.Yteppiphdbondeaa.N
namespace Go.Proofs.Yteppiphdbondeaa.N
open Go Go.RowKit Go.Proofs
set_option linter.unusedSectionVars false
section
variable [I : Sys] {C : Ctx} {fr : List (Nat × Value)} {hp hp' : List Res} {a : Act} {w : World} {ops : Array Oper} {Q : Exit -> Act -> World -> Prop} {rest : List Oper} {d : Nat} {ty : TypeId} {pos : String} {after : Array Edge}
theorem zTp {l : List Oper} (A : Option Addr) {e size n c : Nat} {xs : List Value} [hr : InR A e size n c xs hp] (hn : 0 < n) (k : ∀ g, A = some ⟨g, 0, none⟩ -> Lst C ops Q l fr hp) : Lst C ops Q l fr hp := fun a w ha => by
 obtain ⟨g, hg⟩ := zB7 (ha.own _ hr.mem) hn
 exact k g hg a w ha
end
end Go.Proofs.Yteppiphdbondeaa.N
namespace Go.Proofs.Yteppiphdbondeaa.N
open Go Go.RowKit Go.Proofs
set_option linter.unusedSectionVars false
variable [I : Sys]
theorem F.ent29 : Enters Try.prog 29 := jE Try.func29 rfl (by kernel_rfl)
theorem zR5 {fA dA : Option Addr} {fc dc kiln pw gn nw : Nat} {wd : Bool} {fs : List Flt} {days : List Nat} (hfl : fs.length <= 1000) (hf1 : 1 <= fs.length) (w : World) (hF : RdL Flt.cells 4 w fA fs) : Calls Try.prog 29 #[.agg (CA fA fs.length fc kiln dA days.length dc).toArray, .agg [.int .i64 (pw : Int), .int .i64 (gn : Int), .int .i64 (nw : Int), .bool wd].toArray] w fun e w' => ∃ A' c', e = .returned (.agg [.slice A' (fs.length + 1) c', .int .i64 (kiln : Int), .slice dA days.length dc].toArray) ∧ Grew w w' [.row 49 4 A' (fs.length + 1) c' (fs.flatMap Flt.cells ++ [.int .i64 (pw : Int), .int .i64 (gn : Int), .int .i64 (nw : Int), .bool wd])] := by
 refine enter (N := 14) [(0, .agg (CA fA fs.length fc kiln dA days.length dc).toArray), (1, .agg [.int .i64 (pw : Int), .int .i64 (gn : Int), .int .i64 (nw : Int), .bool wd].toArray)] Try.func29 rfl Try.ntmps29 rfl rfl ?_
 refine zD (zB (jU rfl rfl ?_))
 intro b2
 refine jU rfl rfl ?_
 intro b3
 refine zS rfl F.ti27 ?_
 intro b4
 refine zA (zC (zD (xW (G := Option Addr × Nat) (fun _ => True) (fun g => [(2, .pointer (some ⟨b2, 0, none⟩)), (4, .pointer (some ⟨b4, 0, none⟩))]) (fun g => [.row 49 4 g.1 (fs.length + 1) g.2 (fs.flatMap Flt.cells ++ [.int .i64 (pw : Int), .int .i64 (gn : Int), .int .i64 (nw : Int), .bool wd]), .blk b2 (.cells [.slice g.1 (fs.length + 1) g.2, .int .i64 (kiln : Int), .slice dA days.length dc].toArray 27 (0, 0)), .blk b4 (.cells [.slice none 0 0, .int .i64 0, .slice none 0 0].toArray 27 (0, 0))]) ?_ ?_)))
 ·refine kE [.b b2] F.follows 9 rfl [false, false, false, false, false, false, false, false, false] rfl ?_
  refine zG 1 rfl rfl rfl (zR rfl F.fi27_0 F.ti25) ?_
  refine zG 4 rfl rfl rfl (kZ rfl F.agg49 F.ti49) ?_
  refine zIy (l3 := [false, true, false, false, true, true, false, false, false].toArray) 0 2 5 kr rfl rfl rfl rfl rfl rfl ?_ ?_ ?_
  ·obtain ⟨bd, bo, rfl, _, _⟩ := hF om
   refine zAq rfl Try.underlying25 F.ti49 ?_
   intro b5
   refine wD 4 (.head _) ?_
   refine zA (anb (kV 2 5 kr rfl rfl rfl rfl ?_ ?_))
   ·refine zO rfl rfl F.one25 ?_
    refine zA (anb (kV 3 5 kr rfl rfl rfl rfl ?_ ?_))
    ·refine qW (cells := Flt.cells) rfl rfl rfl Try.underlying25 F.ti49 rfl rfl (fun _ => rfl) wT (fun a w ha => hF.later ha.below) rfl (by unfold maxLen; omega) om ?_
     intro A3 c3
     simp only [Nat.zero_add, List.nil_append]
     refine zA (anb (an1 5 rfl ?_))
     refine qY (vs := [(0, .agg ([.int .i64 (pw : Int), .int .i64 (gn : Int), .int .i64 (nw : Int), .bool wd] : List Value).toArray)]) [.int .i64 (pw : Int), .int .i64 (gn : Int), .int .i64 (nw : Int), .bool wd] rfl rfl Try.underlying25 F.ti49 rfl rfl rfl (Lit.agg (l1 := [.int .i64 (pw : Int), .int .i64 (gn : Int), .int .i64 (nw : Int), .bool wd]) (l := []) rfl rfl) ?_
     intro b10
     refine zA (anb (an1 6 rfl ?_))
     refine kI rfl rfl rfl Try.underlying25 F.ti49 rfl rfl rfl (by unfold maxLen; omega) om ?_
     intro A2 c2
     refine zA (anb (zG 7 rfl rfl rfl (zR rfl F.fi27_0 F.ti25) ?_))
     refine an1 8 rfl ?_
     refine zI rfl rfl F.ti25 rfl ?_
     refine zA (anb (adn ?_))
     exact jP (A2, c2) trivial sbn pkk
    ·refine qY (vs := [(0, .agg ([.int .i64 (pw : Int), .int .i64 (gn : Int), .int .i64 (nw : Int), .bool wd] : List Value).toArray)]) [.int .i64 (pw : Int), .int .i64 (gn : Int), .int .i64 (nw : Int), .bool wd] rfl rfl Try.underlying25 F.ti49 rfl rfl rfl (Lit.agg (l1 := [.int .i64 (pw : Int), .int .i64 (gn : Int), .int .i64 (nw : Int), .bool wd]) (l := []) rfl rfl) ?_
     intro b10
     refine zA (anb (an1 3 rfl ?_))
     refine qW (cells := Flt.cells) rfl rfl rfl Try.underlying25 F.ti49 rfl rfl (fun _ => rfl) wT (fun a w ha => hF.later ha.below) rfl (by unfold maxLen; omega) om ?_
     intro A3 c3
     simp only [Nat.zero_add, List.nil_append]
     refine zA (anb (an1 6 rfl ?_))
     refine kI rfl rfl rfl Try.underlying25 F.ti49 rfl rfl rfl (by unfold maxLen; omega) om ?_
     intro A2 c2
     refine zA (anb (zG 7 rfl rfl rfl (zR rfl F.fi27_0 F.ti25) ?_))
     refine an1 8 rfl ?_
     refine zI rfl rfl F.ti25 rfl ?_
     refine zA (anb (adn ?_))
     exact jP (A2, c2) trivial sbn pkk
   ·refine qY (vs := [(0, .agg ([.int .i64 (pw : Int), .int .i64 (gn : Int), .int .i64 (nw : Int), .bool wd] : List Value).toArray)]) [.int .i64 (pw : Int), .int .i64 (gn : Int), .int .i64 (nw : Int), .bool wd] rfl rfl Try.underlying25 F.ti49 rfl rfl rfl (Lit.agg (l1 := [.int .i64 (pw : Int), .int .i64 (gn : Int), .int .i64 (nw : Int), .bool wd]) (l := []) rfl rfl) ?_
    intro b10
    refine zA (anb (an1 2 rfl ?_))
    refine zO rfl rfl F.one25 ?_
    refine zA (anb (an1 3 rfl ?_))
    refine qW (cells := Flt.cells) rfl rfl rfl Try.underlying25 F.ti49 rfl rfl (fun _ => rfl) wT (fun a w ha => hF.later ha.below) rfl (by unfold maxLen; omega) om ?_
    intro A3 c3
    simp only [Nat.zero_add, List.nil_append]
    refine zA (anb (an1 6 rfl ?_))
    refine kI rfl rfl rfl Try.underlying25 F.ti49 rfl rfl rfl (by unfold maxLen; omega) om ?_
    intro A2 c2
    refine zA (anb (zG 7 rfl rfl rfl (zR rfl F.fi27_0 F.ti25) ?_))
    refine an1 8 rfl ?_
    refine zI rfl rfl F.ti25 rfl ?_
    refine zA (anb (adn ?_))
    exact jP (A2, c2) trivial sbn pkk
  ·refine zO rfl rfl F.one25 ?_
   refine zA (anb (kV 0 5 kr rfl rfl rfl rfl ?_ ?_))
   ·obtain ⟨bd, bo, rfl, _, _⟩ := hF om
    refine zAq rfl Try.underlying25 F.ti49 ?_
    intro b5
    refine wD 4 (.head _) ?_
    refine zA (anb (kV 3 5 kr rfl rfl rfl rfl ?_ ?_))
    ·refine qW (cells := Flt.cells) rfl rfl rfl Try.underlying25 F.ti49 rfl rfl (fun _ => rfl) wT (fun a w ha => hF.later ha.below) rfl (by unfold maxLen; omega) om ?_
     intro A3 c3
     simp only [Nat.zero_add, List.nil_append]
     refine zA (anb (an1 5 rfl ?_))
     refine qY (vs := [(0, .agg ([.int .i64 (pw : Int), .int .i64 (gn : Int), .int .i64 (nw : Int), .bool wd] : List Value).toArray)]) [.int .i64 (pw : Int), .int .i64 (gn : Int), .int .i64 (nw : Int), .bool wd] rfl rfl Try.underlying25 F.ti49 rfl rfl rfl (Lit.agg (l1 := [.int .i64 (pw : Int), .int .i64 (gn : Int), .int .i64 (nw : Int), .bool wd]) (l := []) rfl rfl) ?_
     intro b10
     refine zA (anb (an1 6 rfl ?_))
     refine kI rfl rfl rfl Try.underlying25 F.ti49 rfl rfl rfl (by unfold maxLen; omega) om ?_
     intro A2 c2
     refine zA (anb (zG 7 rfl rfl rfl (zR rfl F.fi27_0 F.ti25) ?_))
     refine an1 8 rfl ?_
     refine zI rfl rfl F.ti25 rfl ?_
     refine zA (anb (adn ?_))
     exact jP (A2, c2) trivial sbn pkk
    ·refine qY (vs := [(0, .agg ([.int .i64 (pw : Int), .int .i64 (gn : Int), .int .i64 (nw : Int), .bool wd] : List Value).toArray)]) [.int .i64 (pw : Int), .int .i64 (gn : Int), .int .i64 (nw : Int), .bool wd] rfl rfl Try.underlying25 F.ti49 rfl rfl rfl (Lit.agg (l1 := [.int .i64 (pw : Int), .int .i64 (gn : Int), .int .i64 (nw : Int), .bool wd]) (l := []) rfl rfl) ?_
     intro b10
     refine zA (anb (an1 3 rfl ?_))
     refine qW (cells := Flt.cells) rfl rfl rfl Try.underlying25 F.ti49 rfl rfl (fun _ => rfl) wT (fun a w ha => hF.later ha.below) rfl (by unfold maxLen; omega) om ?_
     intro A3 c3
     simp only [Nat.zero_add, List.nil_append]
     refine zA (anb (an1 6 rfl ?_))
     refine kI rfl rfl rfl Try.underlying25 F.ti49 rfl rfl rfl (by unfold maxLen; omega) om ?_
     intro A2 c2
     refine zA (anb (zG 7 rfl rfl rfl (zR rfl F.fi27_0 F.ti25) ?_))
     refine an1 8 rfl ?_
     refine zI rfl rfl F.ti25 rfl ?_
     refine zA (anb (adn ?_))
     exact jP (A2, c2) trivial sbn pkk
   ·refine qY (vs := [(0, .agg ([.int .i64 (pw : Int), .int .i64 (gn : Int), .int .i64 (nw : Int), .bool wd] : List Value).toArray)]) [.int .i64 (pw : Int), .int .i64 (gn : Int), .int .i64 (nw : Int), .bool wd] rfl rfl Try.underlying25 F.ti49 rfl rfl rfl (Lit.agg (l1 := [.int .i64 (pw : Int), .int .i64 (gn : Int), .int .i64 (nw : Int), .bool wd]) (l := []) rfl rfl) ?_
    intro b10
    refine zA (anb (an1 0 rfl ?_))
    obtain ⟨bd, bo, rfl, _, _⟩ := hF om
    refine zAq rfl Try.underlying25 F.ti49 ?_
    intro b5
    refine wD 4 (.head _) ?_
    refine zA (anb (an1 3 rfl ?_))
    refine qW (cells := Flt.cells) rfl rfl rfl Try.underlying25 F.ti49 rfl rfl (fun _ => rfl) wT (fun a w ha => hF.later ha.below) rfl (by unfold maxLen; omega) om ?_
    intro A3 c3
    simp only [Nat.zero_add, List.nil_append]
    refine zA (anb (an1 6 rfl ?_))
    refine kI rfl rfl rfl Try.underlying25 F.ti49 rfl rfl rfl (by unfold maxLen; omega) om ?_
    intro A2 c2
    refine zA (anb (zG 7 rfl rfl rfl (zR rfl F.fi27_0 F.ti25) ?_))
    refine an1 8 rfl ?_
    refine zI rfl rfl F.ti25 rfl ?_
    refine zA (anb (adn ?_))
    exact jP (A2, c2) trivial sbn pkk
  ·refine qY (vs := [(0, .agg ([.int .i64 (pw : Int), .int .i64 (gn : Int), .int .i64 (nw : Int), .bool wd] : List Value).toArray)]) [.int .i64 (pw : Int), .int .i64 (gn : Int), .int .i64 (nw : Int), .bool wd] rfl rfl Try.underlying25 F.ti49 rfl rfl rfl (Lit.agg (l1 := [.int .i64 (pw : Int), .int .i64 (gn : Int), .int .i64 (nw : Int), .bool wd]) (l := []) rfl rfl) ?_
   intro b10
   refine zA (anb (kV 0 2 kr rfl rfl rfl rfl ?_ ?_))
   ·obtain ⟨bd, bo, rfl, _, _⟩ := hF om
    refine zAq rfl Try.underlying25 F.ti49 ?_
    intro b5
    refine wD 4 (.head _) ?_
    refine zA (anb (an1 2 rfl ?_))
    refine zO rfl rfl F.one25 ?_
    refine zA (anb (an1 3 rfl ?_))
    refine qW (cells := Flt.cells) rfl rfl rfl Try.underlying25 F.ti49 rfl rfl (fun _ => rfl) wT (fun a w ha => hF.later ha.below) rfl (by unfold maxLen; omega) om ?_
    intro A3 c3
    simp only [Nat.zero_add, List.nil_append]
    refine zA (anb (an1 6 rfl ?_))
    refine kI rfl rfl rfl Try.underlying25 F.ti49 rfl rfl rfl (by unfold maxLen; omega) om ?_
    intro A2 c2
    refine zA (anb (zG 7 rfl rfl rfl (zR rfl F.fi27_0 F.ti25) ?_))
    refine an1 8 rfl ?_
    refine zI rfl rfl F.ti25 rfl ?_
    refine zA (anb (adn ?_))
    exact jP (A2, c2) trivial sbn pkk
   ·refine zO rfl rfl F.one25 ?_
    refine zA (anb (an1 0 rfl ?_))
    obtain ⟨bd, bo, rfl, _, _⟩ := hF om
    refine zAq rfl Try.underlying25 F.ti49 ?_
    intro b5
    refine wD 4 (.head _) ?_
    refine zA (anb (an1 3 rfl ?_))
    refine qW (cells := Flt.cells) rfl rfl rfl Try.underlying25 F.ti49 rfl rfl (fun _ => rfl) wT (fun a w ha => hF.later ha.below) rfl (by unfold maxLen; omega) om ?_
    intro A3 c3
    simp only [Nat.zero_add, List.nil_append]
    refine zA (anb (an1 6 rfl ?_))
    refine kI rfl rfl rfl Try.underlying25 F.ti49 rfl rfl rfl (by unfold maxLen; omega) om ?_
    intro A2 c2
    refine zA (anb (zG 7 rfl rfl rfl (zR rfl F.fi27_0 F.ti25) ?_))
    refine an1 8 rfl ?_
    refine zI rfl rfl F.ti25 rfl ?_
    refine zA (anb (adn ?_))
    exact jP (A2, c2) trivial sbn pkk
 ·rintro ⟨A2, c2⟩ -
  (try dsimp only)
  refine zC (zD (zB (jF rfl rfl F.agg27 F.ti27 ?_)))
  refine zI rfl rfl F.ti27 rfl ?_
  refine zA (zC (zX ?_))
  exact jG rfl (fun a w ha => by exact qR (ha := ha) rfl rfl F.agg27 F.ti27 rfl) (fun a w ha => ⟨A2, c2, rfl, (ha.pck pkk).grown (List.Sublist.refl _)⟩)

theorem zQ3 {fA dA : Option Addr} {fc dc kiln pw gn nw : Nat} {wd : Bool} {fs : List Flt} {days : List Nat} (hfl : fs.length <= 1000) (hf1 : 1 <= fs.length) (w : World) (hF : RdL Flt.cells 4 w fA fs) : Calls Try.prog 29 #[.agg (CA fA fs.length fc kiln dA days.length dc).toArray, .agg [.int .i64 (pw : Int), .int .i64 (gn : Int), .int .i64 (nw : Int), .bool wd].toArray] w fun e w' => ∃ A' c', e = .returned (.agg [.slice A' (fs ++ [(⟨pw, gn, nw, wd⟩ : Flt)]).length c', .int .i64 (kiln : Int), .slice dA days.length dc].toArray) ∧ Grew w w' [.row 49 4 A' (fs ++ [(⟨pw, gn, nw, wd⟩ : Flt)]).length c' ((fs ++ [(⟨pw, gn, nw, wd⟩ : Flt)]).flatMap Flt.cells)] := by
 rw [show (fs ++ [(⟨pw, gn, nw, wd⟩ : Flt)]).length = fs.length + 1 from by simp, show (fs ++ [(⟨pw, gn, nw, wd⟩ : Flt)]).flatMap Flt.cells = fs.flatMap Flt.cells ++ [.int .i64 (pw : Int), .int .i64 (gn : Int), .int .i64 (nw : Int), .bool wd] from by rw [List.flatMap_append, List.flatMap_singleton]; rfl]
 exact zR5 hfl hf1 w hF

set_option maxRecDepth 4000 in
theorem zQ2 [R : ReaC] (nA : Option Addr) (nc : Nat) (nums : List Int) (w : World) (hN : RdL icell 1 w nA nums) (hR : RdC w) : Calls Try.prog 5 #[.slice nA nums.length nc] w fun e w' => e = .returned (.bool true) ∧ Grew w w' [] := by
 refine enter (N := 104) [(0, .slice nA nums.length nc)] Try.func5 rfl Try.ntmps5 rfl rfl ?_
 refine zD (zB (zE rfl rfl (zA (zC (zD (zB (zF rfl rfl (qH (X := Nat) (vs := [_]) (p := fun _ => True) (val := fun b => .pointer (some ⟨b, 0, none⟩)) (rs := fun b => [.blk b (hatO nA nums.length nc 0 11400714819323198485)]) rfl rfl F.ent13 (fun a w ha => (zR7 nA nums.length nc w).mono (fun e w' h => by obtain ⟨b, h1, h2⟩ := h; exact ⟨b, trivial, h1, h2⟩)) ?_))))))))
 intro hb _
 dsimp only [List.cons_append, List.nil_append]
 refine zE rfl rfl (zA (zC (zD (zB (zF rfl rfl (qS (X := Nat × Nat × Nat × List Flt × List Nat × Option Addr × Option Addr × Nat × Nat) (first := []) (cap := []) (vs := [_, _, _]) (p := fun y => y.1 <= 100 ∧ y.2.1 < 18446744073709551616 ∧ ChV y.2.2.2.1 y.2.2.1 y.2.2.2.2.1 ∧ y.2.2.2.1.length <= 2 ∧ y.2.2.2.2.1.length <= 2) (val := fun y => .agg [.slice y.2.2.2.2.2.1 y.2.2.2.1.length y.2.2.2.2.2.2.2.1, .int .i64 (y.2.2.1 : Int), .slice y.2.2.2.2.2.2.1 y.2.2.2.2.1.length y.2.2.2.2.2.2.2.2].toArray) (rs := fun y => [.row 49 4 y.2.2.2.2.2.1 y.2.2.2.1.length y.2.2.2.2.2.2.2.1 (y.2.2.2.1.flatMap Flt.cells), .row 3 1 y.2.2.2.2.2.2.1 y.2.2.2.2.1.length y.2.2.2.2.2.2.2.2 (ints y.2.2.2.2.1), .blk hb (hatO nA nums.length nc y.1 y.2.1)]) rfl rfl rfl F.ent14 (fun a w ha => (zRs (C := ⟨Try.prog, _, _, _, _⟩) (T := []) (tk := 0) (nf := 2) (ny := 2) rfl rfl hN om om om om om om ha).mono (fun e w' h => by obtain ⟨t', s', k', f', d', A', D', c', dc', h1, h2, h3, h4, h5, h6, h7⟩ := h; exact ⟨(t', s', k', f', d', A', D', c', dc'), ⟨by omega, h2, h5, h3, h4⟩, h6, h7⟩)) ?_))))))
 rintro ⟨tk, st, kiln, fs, days, A, D, c, dc⟩ ⟨htk, hst, hc, hnf, hny⟩
 dsimp only at htk hst hc hnf hny ⊢
 refine zS rfl F.ti27 ?_
 intro b4
 refine zI rfl rfl F.ti27 rfl ?_
 refine zA (zC (zD (zB (zE rfl rfl (zA (zC (zD (zD (zB (zF rfl rfl (vO rfl rfl rfl rfl hN hst om om ?_)))))))))))
 rintro s1 n0 hs1 hn0
 refine zE rfl rfl (zA (zC (jA (zIa 49 4 ?_))))
 refine wA (G := Nat × Nat × Nat × Option Addr × Nat × List Flt) (fun g => g.1 + g.2.2.2.2.2.length = n0 ∧ (∀ x ∈ g.2.2.2.2.2, FltOk x) ∧ g.2.1 <= 101 + 10 * g.2.2.2.2.2.length ∧ g.2.2.1 < 18446744073709551616) (fun g => g.1) (fun g => [(3, .pointer (some ⟨hb, 0, none⟩)), (4, .pointer (some ⟨b4, 0, none⟩)), (5, .slice g.2.2.2.1 g.2.2.2.2.2.length g.2.2.2.2.1), (6, .int .i64 (g.1 : Int))]) (fun g => [.row 49 4 g.2.2.2.1 g.2.2.2.2.2.length g.2.2.2.2.1 (g.2.2.2.2.2.flatMap Flt.cells), .blk b4 (.cells [.slice A fs.length c, .int .i64 (kiln : Int), .slice D days.length dc].toArray 27 (0, 0)), .row 49 4 A fs.length c (fs.flatMap Flt.cells), .row 3 1 D days.length dc (ints days), .blk hb (hatO nA nums.length nc g.2.1 g.2.2.1)]) (n0, tk + 1, s1, none, 0, []) ⟨by simp, by simp, by simp; omega, hs1⟩ sbn pkk ?_
 rintro ⟨i, t1, s2, oA, oc, os⟩ ⟨hil, hlo, ht1, hs2⟩
 dsimp only at hil hlo ht1 hs2 ⊢
 refine zD (zD (zB (zF rfl rfl (zJ rfl rfl rfl zAs ?_))))
 refine zA (zC (zQ rfl (fun hc0 => ?_) (fun hc0 => ?_)))
 ·obtain ⟨i, rfl⟩ : ∃ i', i = i' + 1 := ⟨i - 1, by omega⟩
  refine zU (zC (zD (jA (zB (zF rfl rfl (zF rfl rfl (yH (X := Nat × Nat × Flt) (vs := [_]) hb (fun y => hatO nA nums.length nc (y.1) (y.2.1)) (fun y => y.1 <= t1 + 10 ∧ y.2.1 < 18446744073709551616 ∧ FltOk y.2.2) (fun y => .agg [.int .i64 (y.2.2.power : Int), .int .i64 (y.2.2.gain : Int), .int .i64 (y.2.2.now : Int), .bool y.2.2.washed].toArray) rfl rfl F.ent27 (fun a w ha => (zG7 (C := ⟨Try.prog, _, _, _, _⟩) rfl rfl hN (tk := t1) (st := s2) om hs2 ha).mono (fun e w' h => by obtain ⟨t', s', x, h1, h2, h3, h4, h5⟩ := h; exact ⟨(t', s', x), ⟨h1, h2, h3⟩, h4, h5⟩)) ?_)))))))
  rintro ⟨t2, s3, ⟨pw, gn, nw, wd⟩⟩ ⟨ht2, hs3, hfo⟩
  dsimp only at ht2 hs3 hfo ⊢
  refine qY (vs := [(0, .agg ([.int .i64 (pw : Int), .int .i64 (gn : Int), .int .i64 (nw : Int), .bool wd] : List Value).toArray)]) [.int .i64 (pw : Int), .int .i64 (gn : Int), .int .i64 (nw : Int), .bool wd] rfl rfl Try.underlying25 F.ti49 rfl rfl rfl (Lit.agg (l1 := [.int .i64 (pw : Int), .int .i64 (gn : Int), .int .i64 (nw : Int), .bool wd]) (l := []) rfl rfl) ?_
  intro b28
  refine kI rfl rfl rfl Try.underlying25 F.ti49 rfl rfl rfl (by unfold maxLen; omega) om ?_
  intro A2 c2
  refine zE rfl rfl (zA (zN (zC (zB (zF rfl rfl (zJ rfl rfl rfl (fun w => xN w (show IntKind.i64.wrap (((i + 1 : Nat) : Int) - 1) = (i : Int) from by rw [jB _ om om]; omega)) ?_))))))
  refine zE rfl rfl (zA (xG (i, t2, s3, A2, c2, os ++ [⟨pw, gn, nw, wd⟩]) ⟨by simp; omega, fun y hy => ?_, by simp; omega, hs3⟩ tdo (by dsimp only; (try rw [List.length_append, List.length_singleton]); repeat (first | exact Sub.nil _ | refine Sub.cons rfl ?_)) (by dsimp only; rw [List.length_append, List.length_singleton]; rw [List.flatMap_append, List.flatMap_singleton]; repeat (first | exact Pck.nil _ | exact Pck.refl _ | (apply Pck.cons; focus ((repeat (first | exact Rem.here _ | apply Rem.there)); done)) | refine Pck.skip _ ?_))))
  rcases List.mem_append.1 hy with h | h
  ·exact hlo y h
  ·simp at h; subst h; exact hfo
 ·obtain rfl : i = 0 := by omega
  have hos3 : os.length <= 3 := by omega
  have hf1 := hc.f1
  refine kC (zT (zT (jJ (zC (zD (zB (zSi A ?_)))))))
  intro hcap
  refine jF rfl rfl F.agg27 F.ti27 ?_
  refine zF rfl rfl (qH (X := Nat × Nat × Nat) (vs := [_, _]) (p := fun g => match buyN fs kiln days os os.length with | none => g = (0, 0, 11) | some q => g = (q.1, q.2, 0)) (val := fun g => .tuple #[.int .i64 (g.1 : Int), .int .i64 (g.2.1 : Int), .int .i64 (g.2.2 : Int)]) (rs := fun _ => []) rfl rfl F.ent28 (fun a w ha => (zS9 hc hnf hlo hos3 hcap w (zB3 (A := A) ha rfl) (zKx (A := D) ha rfl) (zB3 (A := oA) ha rfl)).mono (fun e w' h => ?_)) ?_)
  ·cases hbn : buyN fs kiln days os os.length with
   | none => rw [hbn] at h; exact ⟨(0, 0, 11), rfl, h.1, h.2⟩
   | some q => rw [hbn] at h; exact ⟨(q.1, q.2, 0), rfl, h.1, h.2⟩
  rintro ⟨gi, gq, ge⟩ hgp
  dsimp only [List.nil_append] at hgp ⊢
  refine zF rfl rfl (zV rfl rfl rfl (zV rfl rfl rfl (zV rfl rfl rfl (zE rfl rfl (zE rfl rfl (zE rfl rfl (zA (zC (zD (zB (zE rfl rfl (zE rfl rfl (zA (zC (zD (zD (zB (zE rfl rfl (zA (zC (jA (wA (G := Nat) (fun k => k <= os.length) (fun k => os.length - k) (fun k => [(4, .pointer (some ⟨b4, 0, none⟩)), (5, .slice oA os.length oc), (7, .int .i64 (gi : Int)), (8, .int .i64 (gq : Int)), (9, .int .i64 (ge : Int)), (10, .int .i64 (buyI (buyN fs kiln days os k))), (11, .int .i64 ((buyF (buyN fs kiln days os k) : Nat) : Int)), (12, .int .i64 (k : Int))]) (fun _ => [.row 49 4 oA os.length oc (os.flatMap Flt.cells), .blk b4 (.cells [.slice A fs.length c, .int .i64 (kiln : Int), .slice D days.length dc].toArray 27 (0, 0)), .row 49 4 A fs.length c (fs.flatMap Flt.cells), .row 3 1 D days.length dc (ints days)]) 0 (Nat.zero_le _) sbn pkk ?_))))))))))))))))))))))
  intro k hkk
  (try dsimp only at hkk ⊢)
  refine zD (zD (zB (zF rfl rfl (zF rfl rfl (kK rfl rfl Try.underlying25 ?_)))))
  refine zJ rfl rfl rfl kH ?_
  refine zA (zC (zQ rfl (fun hc1 => ?_) (fun hc1 => ?_)))
  ·have hk' : k < os.length := by omega
   obtain ⟨f, hx⟩ : ∃ x, os[k]? = some x := ⟨_, List.getElem?_eq_getElem hk'⟩
   have hfok := hlo f (List.mem_of_getElem? hx)
   obtain ⟨pw, gn, nw, wd⟩ := f
   have hgd : os.getD k default = (⟨pw, gn, nw, wd⟩ : Flt) := by rw [List.getD_eq_getElem?_getD, hx]; rfl
   have hsucc : buyN fs kiln days os (k + 1) = if (bstA (fs ++ [(⟨pw, gn, nw, wd⟩ : Flt)]) kiln days).is = true ∧ (∀ p, buyN fs kiln days os k = some p -> (bstA (fs ++ [(⟨pw, gn, nw, wd⟩ : Flt)]) kiln days).f < p.2) then some (k, (bstA (fs ++ [(⟨pw, gn, nw, wd⟩ : Flt)]) kiln days).f) else buyN fs kiln days os k := by rw [<- hgd]; rfl
   refine zU (zC (zD (jA (zD (kE [] F.follows 14 rfl [false, false, false, false, false, false, false, false, false, false, false, false, false, false] rfl ?_)))))
   refine zG 0 rfl rfl rfl (kZ rfl F.agg27 F.ti27) ?_
   refine zG 1 rfl rfl rfl (jH rfl) ?_
   refine zG 2 rfl rfl rfl (jH rfl) ?_
   refine an1 3 rfl ?_
   refine zTp oA om ?_
   intro g8 hg8
   refine xE (j := k) rfl (show _ = some (Value.slice (some ⟨g8, 0, none⟩) os.length oc) from by rw [<- hg8]; rfl) rfl Try.underlying25 F.ti49 rfl hk' ?_
   refine zA (anb (an1 4 rfl ?_))
   refine qN (l := [.int .i64 (pw : Int), .int .i64 (gn : Int), .int .i64 (nw : Int), .bool wd]) rfl rfl F.agg49 F.ti49 rfl (fun a w ha j u hu => by
    obtain ⟨b9, o9, h1, _, h3⟩ := zB3 (A := oA) (l := os) ha rfl om
    rw [hg8] at h1
    cases h1
    exact h3 k _ hx j u hu) ?_
   refine zA (anb (an1 5 rfl ?_))
   refine qH (X := Option Addr × Nat) (vs := [_, _]) (p := fun _ => True) (val := fun g => .agg [.slice g.1 (fs ++ [(⟨pw, gn, nw, wd⟩ : Flt)]).length g.2, .int .i64 (kiln : Int), .slice D days.length dc].toArray) (rs := fun g => [.row 49 4 g.1 (fs ++ [(⟨pw, gn, nw, wd⟩ : Flt)]).length g.2 ((fs ++ [(⟨pw, gn, nw, wd⟩ : Flt)]).flatMap Flt.cells)]) rfl rfl F.ent29 (fun a w ha => (zQ3 om om w (zB3 (A := A) ha rfl)).mono (fun e w' h => by obtain ⟨A', c', h1, h2⟩ := h; exact ⟨(A', c'), trivial, h1, h2⟩)) ?_
   rintro ⟨A7, c7⟩ -
   dsimp only [List.cons_append, List.nil_append]
   refine zA (anb (an1 6 rfl ?_))
   refine qH (X := Option Addr × Nat × Nat) (vs := [_]) (p := fun _ => True) (val := fun g => .tuple #[.slice g.1 g.2.1 g.2.2, .int .i64 ((oF (bstA (fs ++ [(⟨pw, gn, nw, wd⟩ : Flt)]) kiln days) : Nat) : Int), .int .i64 ((oE (bstA (fs ++ [(⟨pw, gn, nw, wd⟩ : Flt)]) kiln days) : Nat) : Int)]) (rs := fun _ => []) rfl rfl F.ent15 (fun a w ha => (zP6 (hc.more hnf hfok) w (zB3 (A := A7) ha rfl) (zKx (A := D) ha rfl)).mono (fun e w' h => by obtain ⟨oA', on', oc', h1, h2⟩ := h; exact ⟨(oA', on', oc'), trivial, h1, h2⟩)) ?_
   rintro ⟨A9, n9, c9⟩ -
   dsimp only [List.nil_append]
   refine zA (anb (zG 7 rfl rfl rfl (jH rfl) ?_))
   refine zG 8 rfl rfl rfl (kS rfl rfl) ?_
   refine zG 9 rfl rfl rfl (kS rfl rfl) ?_
   refine zG 10 rfl rfl rfl (kS rfl rfl) ?_
   refine zG 11 rfl rfl rfl (kP rfl) ?_
   refine zG 12 rfl rfl rfl (kP rfl) ?_
   refine zG 13 rfl rfl rfl (kP rfl) ?_
   refine adn (zC (zD (zD ?_)))
   rcases his : (bstA (fs ++ [(⟨pw, gn, nw, wd⟩ : Flt)]) kiln days).is with _ | _
   ·refine zB ?_
    rw [show oE (bstA (fs ++ [(⟨pw, gn, nw, wd⟩ : Flt)]) kiln days) = 11 from by unfold oE; rw [his]; rfl]
    refine zF rfl rfl (zJ (v := .bool true) rfl rfl rfl (fun w => by rw [qZ, decide_eq_true om]) ?_)
    refine zF rfl rfl (zM rfl rfl (zF rfl rfl (zM rfl rfl (zJ (v := .bool false) rfl rfl rfl (fun w => by rw [qZ, decide_eq_false om]) ?_))))
    refine zZ rfl rfl rfl (zA (zC (kG rfl (zU (zC (zD (zB (zF rfl rfl (zJ (v := .bool false) rfl rfl rfl (fun w => by rw [jT, decide_eq_false om]) ?_)))))))))
    refine zF rfl rfl (jC rfl rfl rfl (jC rfl rfl rfl (jC rfl rfl rfl (kJ rfl rfl rfl (kJ rfl rfl rfl (kJ rfl rfl rfl (jC rfl rfl rfl (jQ rfl rfl rfl (zA (zC (kG rfl (zU (zN (zC (zB (zF rfl rfl (zJ rfl rfl rfl (fun w => jM w (jB _ om om)) ?_)))))))))))))))))
    refine zE rfl rfl (zA (xG (k + 1) tdo tdo (by (try dsimp only); rw [hsucc, if_neg (by rw [his]; simp)]; repeat (first | exact Sub.nil _ | refine Sub.cons rfl ?_)) pkk))
   ·refine zB ?_
    rw [show oE (bstA (fs ++ [(⟨pw, gn, nw, wd⟩ : Flt)]) kiln days) = 0 from by unfold oE; rw [his]; rfl, show oF (bstA (fs ++ [(⟨pw, gn, nw, wd⟩ : Flt)]) kiln days) = (bstA (fs ++ [(⟨pw, gn, nw, wd⟩ : Flt)]) kiln days).f from by unfold oF; rw [his]; rfl]
    refine zF rfl rfl (zJ (v := .bool false) rfl rfl rfl (fun w => by rw [qZ, decide_eq_false om]) ?_)
    refine zF rfl rfl (jC rfl rfl rfl (jC rfl rfl rfl (jQ rfl rfl rfl (zA (zC (kG rfl (zU (zC (zD ?_)))))))))
    have hif := hsucc
    rcases hbn : buyN fs kiln days os k with _ | ⟨bi, bfr⟩
    ·refine zB (zF rfl rfl (zJ (v := .bool true) rfl rfl rfl (fun w => by rw [jT, decide_eq_true om]) ?_))
     refine zF rfl rfl (zM rfl rfl (zF rfl rfl (zM rfl rfl (zJ rfl rfl rfl kH ?_))))
     refine zM rfl rfl (zF rfl rfl (jC rfl rfl rfl (jC rfl rfl rfl (jC rfl rfl rfl (zM rfl rfl (zZ rfl rfl rfl (zZ rfl rfl rfl (zA (zC (kR rfl (zB (zF rfl rfl (zF rfl rfl (zE rfl rfl (zE rfl rfl (zA (zN (zC (zB (zF rfl rfl (zJ rfl rfl rfl (fun w => jM w (jB _ om om)) ?_)))))))))))))))))))))
     refine zE rfl rfl (zA (xG (k + 1) tdo tdo (by (try dsimp only); rw [hsucc, if_pos ⟨his, fun p hp => by rw [hbn] at hp; cases hp⟩]; repeat (first | exact Sub.nil _ | refine Sub.cons rfl ?_)) pkk))
    ·refine zB (zF rfl rfl (zJ (v := .bool true) rfl rfl rfl (fun w => by rw [jT, decide_eq_true om]) ?_))
     refine zF rfl rfl (zM rfl rfl (zF rfl rfl (zM rfl rfl (zJ (v := .bool false) rfl rfl rfl (fun w => by rw [kH]; rw [show decide (buyI (some (bi, bfr)) < 0) = false from decide_eq_false (by dsimp only [buyI]; omega)]) ?_))))
     refine zM rfl rfl (zF rfl rfl (zM rfl rfl (zF rfl rfl (zM rfl rfl (zF rfl rfl (zM rfl rfl (zJ rfl rfl rfl kH ?_)))))))
     refine zM rfl rfl (jQ rfl rfl rfl (zZ rfl rfl rfl (zA (zC (zQ rfl (fun hc3 => ?_) (fun hc3 => ?_))))))
     ·dsimp only [buyF] at hc3
      refine zB (zF rfl rfl (zF rfl rfl (zE rfl rfl (zE rfl rfl (zA (zN (zC (zB (zF rfl rfl (zJ rfl rfl rfl (fun w => jM w (jB _ om om)) ?_))))))))))
      refine zE rfl rfl (zA (xG (k + 1) tdo tdo (by (try dsimp only); rw [hsucc, if_pos ⟨his, fun p hp => by rw [hbn] at hp; cases hp; omega⟩]; repeat (first | exact Sub.nil _ | refine Sub.cons rfl ?_)) pkk))
     ·dsimp only [buyF] at hc3
      refine zU (zN (zC (zB (zF rfl rfl (zJ rfl rfl rfl (fun w => jM w (jB _ om om)) ?_)))))
      refine zE rfl rfl (zA (xG (k + 1) tdo tdo (by (try dsimp only); rw [hsucc, if_neg (by rintro ⟨_, h⟩; have := h _ hbn; omega), hbn]; repeat (first | exact Sub.nil _ | refine Sub.cons rfl ?_)) pkk))
  ·obtain rfl : k = os.length := by omega
   refine kC (zT (zT (jJ (zC (zD (zD ?_))))))
   rcases hbn : buyN fs kiln days os os.length with _ | ⟨bi, bfr⟩ <;> (rw [hbn] at hgp; cases hgp)
   ·refine zB (zF rfl rfl (zJ rfl rfl rfl kH ?_))
    refine zA (zC (kR rfl (zD (zB (zF rfl rfl (zJ (v := .bool true) rfl rfl rfl (fun w => by rw [jT, decide_eq_true (by rfl)]) ?_))))))
    refine zF rfl rfl (zM rfl rfl (zF rfl rfl (zM rfl rfl (zJ (v := .bool true) rfl rfl rfl (fun w => by rw [jT, decide_eq_true (by rfl)]) ?_))))
    refine zZ rfl rfl rfl (zF rfl rfl (zM rfl rfl (zF rfl rfl (zM rfl rfl (zJ (v := .bool true) rfl rfl rfl (fun w => by rw [jT, decide_eq_true (by rfl)]) ?_)))))
    refine zZ rfl rfl rfl (zF rfl rfl (zM rfl rfl (jL (v := .bool true) (vs := []) rfl rfl F.ent20 (fun a w ha => zI1 w (hR.later ha.below)) ?_)))
    refine zZ rfl rfl rfl (zE rfl rfl (zA (zC (zX (zY ?_)))))
    exact jG rfl (fun a w ha => jN rfl rfl ha) (fun a w ha => ⟨rfl, ha.grown nsl⟩)
   ·refine zB (zF rfl rfl (zJ (v := .bool false) rfl rfl rfl (fun w => by rw [kH]; rw [show decide (buyI (some (bi, bfr)) < 0) = false from decide_eq_false (by dsimp only [buyI]; omega)]) ?_))
    refine zA (zC (kG rfl (zU (zC (zD (zB (zF rfl rfl (zJ (v := .bool true) rfl rfl rfl (fun w => by rw [jT, decide_eq_true (by rfl)]) ?_))))))))
    refine zF rfl rfl (zM rfl rfl (zF rfl rfl (zM rfl rfl (zF rfl rfl (zM rfl rfl (zJ (v := .bool true) rfl rfl rfl (fun w => by rw [jT, decide_eq_true (by rfl)]) ?_))))))
    refine zZ rfl rfl rfl (zF rfl rfl (zM rfl rfl (zF rfl rfl (zM rfl rfl (zF rfl rfl (zM rfl rfl (zJ (v := .bool true) rfl rfl rfl (fun w => by rw [jT, decide_eq_true (by rfl)]) ?_)))))))
    refine zZ rfl rfl rfl (zF rfl rfl (zM rfl rfl (jL (v := .bool true) (vs := []) rfl rfl F.ent20 (fun a w ha => zI1 w (hR.later ha.below)) ?_)))
    refine zZ rfl rfl rfl (zE rfl rfl (zA (zC (zX ?_))))
    exact jG rfl (fun a w ha => jN rfl rfl ha) (fun a w ha => ⟨rfl, ha.grown nsl⟩)

end Go.Proofs.Yteppiphdbondeaa.N
namespace Go.Proofs.Yteppiphdbondeaa.N
open Go Go.RowKit Go.Conc
set_option linter.unusedSectionVars false

def seenZ (W : World) : World := { seenW W with output := gout [0] }
theorem zPz (W : World) : Hid (Viewed W) (fun _ => False) W (seenZ W) := by
 have h := zQ1 W
 exact ⟨h.1, h.2, h.3, h.4, h.5, h.6, h.7, h.8, h.9, h.10⟩
theorem zOs {W : World} {p : Addr} {u : Value} (h : W.cell? p = some u) : (seenZ W).cell? p = some u := zN0 h
section
variable {P : Program} {W : World} {f : FuncId} {args : Array Value} {Post : Value -> World -> Prop}
theorem zL8 {F : Nat -> Prop} {w w' v' : World} (hk : Kept F (fun _ => False) w w') (hv : Hid F (fun _ => False) w' v') (hb : Bas W (Viewed W) (fun i => i = 0) (fun _ => F) w) (hv0 : Below (seenZ W).heap.size (seenZ W) v') : Below W.heap.size W w' := by
 refine ⟨hk.os.trans hb.os, hk.tape.trans hb.tape, hk.output.trans hb.output, Nat.le_trans hb.size hk.size, fun b hlt => ?_⟩
 by_cases hF : F b
 ·rw [hk.block b (Nat.lt_of_lt_of_le hlt hb.size) (.inl hF)]
  exact (hb.held b (hb.new b hlt hF)).2.1
 ·rw [<- hv.same b hF (fun x => x), hv0.block b (by simpa [seenZ, seenW] using hlt)]
  show (seenW W).heap[b]? = _
  rw [zAk]
  cases h : W.heap[b]? with
  | none => rfl
  | some o =>
   cases o with
   | view p t => exact absurd ((hb.held b ⟨p, t, h⟩).2.2 0 rfl) hF
   | _ => rfl
def sig0 : Cst := ⟨0, 0, 0, [], 0, false, false, false, 0, 0, .rest, [], [], fun _ => none, []⟩
theorem zOn : sig0.blank := ⟨fun _ => rfl, rfl, rfl, rfl, rfl, rfl, rfl, rfl, rfl⟩
theorem zT0 (low : Nat) : Cok low sig0 := by
 refine ⟨List.nodup_nil, rfl, fun j => ?_, fun j p h => (by cases h), fun b hb => (by cases hb), fun h => (by cases h), fun h => (by cases h), fun h => (by cases h), by decide, rfl, .nil, zOn⟩
 constructor
 ·intro h; cases h
 ·rintro ⟨p, h⟩; cases h
theorem zTn {low : Nat} {tW : TypeId} {msg : Nat -> Value} {σ : Cst} (hok : Cok low σ) (h : σ.gh 0 = some [0]) : Alone (Cp low tW msg) σ ∧ σ.lent = [] ∧ ∀ c, ¬ (Cst.ts σ).Ca c := by
 rw [zAb] at h
 have hp := hok.phase
 cases hm : σ.mn <;> rw [hm] at h <;> simp [Mn.enc] at h
 unfold Cst.phase at hp
 rw [hm] at hp
 obtain ⟨h1, h2, h3, h4, h5, h6, h7, h8, h9⟩ := hp
 refine ⟨?_, h9, fun c hc => ?_⟩
 ·refine ⟨fun j hj => zAa hj h1, ?_⟩
  show (Cst.ts σ).D 0 = 0
  simp [Cst.ts, hm, Mn.deaf]
 ·rcases hc with ⟨h, _⟩ | ⟨h, _⟩ <;> omega
theorem zIf {low : Nat} {tW : TypeId} {msg : Nat -> Value} (hK : low = W.heap.size) (noInit : P.inits.idxOf? f = none)
  (h : @Calls P (zSys P (Cp low tW msg)) f args (seenZ W) fun e v' => ∃ x, e = .returned x ∧ Below (seenZ W).heap.size (seenZ W) v' ∧ ∀ W', Below W.heap.size W W' -> Post x W') :
  ∃ N last o w' t', runNT P (N + 1) (solo (G (Frame.enter P f args .normal) []) W) #[] = (.ended o w', t') ∧ runN P N (solo (G (Frame.enter P f args .normal) []) W) = .next last ∧ step P last = .ended o w' ∧ Go.Conc.Good P Post last o w' t' := by
 refine zVc (K := Cp low tW msg) (σ := sig0) (γ := [0]) zTk hK (zPz W) rfl (zT0 low) rfl (fun j hj => wU hj rfl) (fun b hb => (by cases hb)) rfl rfl (@Gs.mono P (zSys P (Cp low tW msg)) _ _ _ _ (h []) fun g v' hs => ?_)
 obtain ⟨e, fr, v₀, ⟨x, rfl, hb, hp⟩, hr, rfl, hfn, hm, hd, hkd, fn, hf, ht, hres⟩ := hs
 have hb' : Below (seenZ W).heap.size (seenZ W) v' := hb.trans (hr.mono hb.size)
 refine ⟨rfl, ⟨[0], hb'.output, fun σ hok hg => zTn hok hg⟩, fun F w hv hbas => ?_⟩
 obtain ⟨w', h1, h2, h3, h4, h5⟩ := ht.ok (hres v' (Rl.refl v')) hv
 have hno : P.inits.idxOf? fr.fn = none := by rw [hfn]; exact noInit
 refine ⟨x, w', seen P fr.fn ((results fn fr.tmps).events P v' #[]), ?_, ?_, hp w' (zL8 h4 h3 hbas hb')⟩
 ·rw [<- h2]
  simp [G, stepG, unwind, doReturn, hm, hd, hkd, hf, h1, hno, GStep.after]
 ·rw [<- hv.size]
  exact fun e he => h5 e (Go.Conc.mem_seen he)
end
theorem zAg {H : Type} {enc : TypeId × Value -> H} {a : Assume} {C : Checked} {os : Os} {f : FuncId} {fn : Func} {s : ChangeSpec} {conds : List PathCond} {apart fresh handsOn again : Bool} (tW : TypeId) (msg : Nat -> Value)
  (own : ownKnob C.prog.godebug = none) (started : os.Started) (noInit : C.prog.inits.idxOf? f = none) (hfn : C.prog.funcs[f]? = some fn)
  (witness : ∃ (w : World) (tape : Tape) (i : Input), w.os = os ∧ (w.forCall tape i).Shaped C.prog ∧ i.vars = [] ∧ Input.okWide C.prog (w.forCall tape i) .any w.heap.size f i ∧
   s.pre6 enc C.prog fn conds apart (w.forCall tape i).memory i.args ∧ a.holds C.prog (lone (Frame.enter C.prog f i.args .normal) [] (w.forCall tape i)))
  (contract : ∀ (W : World) (base : Nat) (args : Array Value) (ds gs : List (DataW H)) (before : List MemPlace),
   (∀ (j : Nat) t v, fn.params[j]? = some t -> args[j]? = some v -> Value.okWide C.prog W .any base t v) ->
   DataW.Whole enc C.prog fn.params.toList s.vars apart W args.toList ds gs before ->
   conds.all (PathCond.test C.prog ⟨fn.params.toList, ds, s.plain.varTypes C.prog, gs⟩) = true ->
   (DataW.weightsEach C.prog (fn.params.toList ++ s.plain.varTypes C.prog) (ds ++ gs)).all (· <= reachBytes) = true ->
   a.holds C.prog (lone (Frame.enter C.prog f args .normal) [] W) ->
   @Calls C.prog (zSys C.prog (Cp W.heap.size tW msg)) f args (seenZ W) fun e v' => ∃ x, e = .returned x ∧ Below (seenZ W).heap.size (seenZ W) v' ∧ ∀ W', Below W.heap.size W W' -> s.post enc C.prog fn apart fresh handsOn again W args x W') :
  ReturnsInLeavingWide a C os f .any (s.pre6 enc C.prog fn conds apart) (s.post enc C.prog fn apart fresh handsOn again) := by
 refine returnsInLeavingWide_of_good own started witness ?_
 intro w tape i _ _ _ hok hpre hholds
 obtain ⟨_, _, _, fn', hfn', _, _, _, _, hval⟩ := hok
 have e : fn' = fn := Option.some.inj (hfn'.symm.trans hfn)
 subst e
 obtain ⟨⟨ds, gs, before, hw, hc⟩, hz⟩ := hpre
 have hw' := DataW.Whole.of_heap (w' := w.forCall tape i) (by rfl) hw
 have hcalls := contract (w.forCall tape i) w.heap.size i.args ds gs before hval hw' hc (hz.weights hw) hholds
 obtain ⟨M, last, o, w', t', h1, h2, h3, h4⟩ := zIf rfl noInit hcalls
 exact ⟨M, last, o, w', t', h1, h2, h3, h4.mono fun v hp => ChangeSpec.post_blind hp⟩
end Go.Proofs.Yteppiphdbondeaa.N
/- What rows of laws about char share: the program's closed facts, and the law from its call in company. -/
namespace Go.Proofs.Yteppiphdbondeaa.N
open Go Go.ChangeShapes Go.WideShapes Go.ChangeAt Go.RowKit Go.Proofs Go.Proofs.Yteppiphdbondeaa Go.Proofs.Yteppiphdbondeaa.Rows
set_option linter.unusedSectionVars false
theorem own_ : ownKnob Try.prog.godebug = Option.none := by kernel_rfl
theorem zLf : laidOutB Try.prog = true := by kernel_rfl
theorem zTb : Try.prog.cellsOf 3 = 1 := by kernel_rfl
theorem zP1 : Try.prog.underlying 22 = some (.slice 3) := by kernel_rfl
theorem zW9 : Try.prog.underlying 3 = some (.int .i64) := by kernel_rfl
theorem zXi : Try.prog.underlying 4 = some .bool := by kernel_rfl
theorem zTi : Try.prog.readableRec 22 = true := by kernel_rfl
set_option maxRecDepth 100000 in
theorem zW3 : 22 < Try.prog.types.size := of_decide_eq_true (by kernel_rfl)
theorem zSe {α : Type} {cells : α -> List Value} {size : Nat} {W : World} {A : Option Addr} {l : List α} (h : RdL cells size W A l) : RdL cells size (seenZ W) A l := fun hl => by
 obtain ⟨b, o, h1, h2, h3⟩ := h hl
 exact ⟨b, o, h1, by simpa [seenZ, seenW] using h2, fun k x hk j u hu => zOs (h3 k x hk j u hu)⟩
abbrev ZS (W : World) : Sys := zSys Try.prog (Cp W.heap.size 131 msgM)
set_option maxRecDepth 100000 in
theorem zIe {H : Type} {enc : TypeId × Value -> H} {f : FuncId} {fn : Func} {s : ChangeSpec} (hp : fn.params = #[22]) (hr : fn.resultTypes = #[4]) (hs : s.vars = []) (hfn : ∀ d : DataW H, s.fn H [d] = { results := [.lit (.bool true)], args := [d] })
  (W : World) (law : ∀ (nA : Option Addr) (nc : Nat) (nums : List Int), RdL icell 1 (seenZ W) nA nums -> @Calls Try.prog (ZS W) f #[.slice nA nums.length nc] (seenZ W) fun e w' => e = .returned (.bool true) ∧ Grew (seenZ W) w' [])
  (base : Nat) (args : Array Value) (ds gs : List (DataW H)) (before : List MemPlace)
  (hval : ∀ (j : Nat) t v, fn.params[j]? = some t -> args[j]? = some v -> Value.okWide Try.prog W .any base t v)
  (hW : DataW.Whole enc Try.prog fn.params.toList s.vars false W args.toList ds gs before) :
  @Calls Try.prog (ZS W) f args (seenZ W) fun e v' => ∃ x, e = .returned x ∧ Below (seenZ W).heap.size (seenZ W) v' ∧ ∀ W', Below W.heap.size W W' -> s.post enc Try.prog fn false true false false W args x W' := by
 have hW' := hW
 obtain ⟨p, q, hA, hV, rfl, _, _⟩ := hW
 rw [hs] at hV
 rw [hp] at hA hval
 obtain ⟨v0, d0, rfl, rfl, h0⟩ := trodAll_one hA
 obtain ⟨rfl, rfl⟩ := trodVars_none hV
 obtain ⟨a0, len, cap, rfl⟩ := okWide_slice zP1 (hval 0 22 v0 rfl rfl)
 have h0k := h0
 obtain ⟨fuel, hf⟩ := h0
 clear hA
 simp only [List.append_nil] at hW'
 have hlt : ∀ x ∈ p, x.block < W.heap.size := fun x hx => by simpa using hW'.lt x hx
 have hargs : ∀ (W' : World), Below W.heap.size W W' -> DataW.Trod enc Try.prog W' 0 (fun b => decide (b < W.heap.size)) true 22 (.slice a0 len cap) d0 p :=
  fun W' hn => Below.trod zLf zTi zW3 h0k hn hlt
 have close : ∀ nums : List Int, nums.length = len -> RdL icell 1 W a0 nums -> @Calls Try.prog (ZS W) f #[.slice a0 len cap] (seenZ W) fun e v' => ∃ x, e = .returned x ∧ Below (seenZ W).heap.size (seenZ W) v' ∧ ∀ W', Below W.heap.size W W' -> s.post enc Try.prog fn false true false false W #[.slice a0 len cap] x W' := by
  intro nums hn hR
  have hl := law a0 cap nums (zSe hR)
  rw [hn] at hl
  refine @Calls.mono _ (ZS W) _ _ _ _ _ hl fun e v' ⟨he, hg⟩ => ⟨_, he, hg.1, fun W' hb => ?_⟩
  refine ⟨_, _, _, [], p, [], hW', ?_, ?_, ?_, hb.frame _, fun h => Bool.noConfusion h⟩
  ·rw [show s.fn H ([d0] ++ []) = _ from hfn d0, hr]; exact trodAll_mk1 (shut_bool zXi true)
  ·rw [show s.fn H ([d0] ++ []) = _ from hfn d0, hp]; exact trodAll_mk1 (hargs W' hb)
  ·rw [show s.fn H ([d0] ++ []) = _ from hfn d0, hs]; rfl
 rcases open_ints zP1 zW9 zTb hf with ⟨hcs, hx⟩ | ⟨a, len', cap', zs, hcs, _, hl, hm, hz, hx, hcell, hwz⟩
 ·simp [Value.cells] at hcs
  obtain ⟨rfl, rfl, rfl⟩ := hcs
  exact close [] rfl (fun h => absurd h (by simp))
 ·simp [Value.cells] at hcs
  obtain ⟨rfl, rfl, rfl⟩ := hcs
  simp only [Prod.mk.injEq] at hx
  obtain ⟨rfl, rfl⟩ := hx
  simp only [if_true] at hz
  obtain ⟨b, off, spot⟩ := a
  refine close (zs.take len) (by rw [List.length_take]; omega) (fun hpos => ?_)
  rw [List.length_take] at hpos
  have hspot : spot = Option.none := by simpa [Addr.add] using World.cell?_spot (hcell 0 om)
  subst hspot
  refine ⟨b, off, rfl, hlt (.cell b off) (MemPlace.mem_row.2 ⟨0, by omega, by simp⟩), fun k x hk j u hu => ?_⟩
  rw [List.getElem?_take] at hk
  split at hk
  ·rename_i hkl
   cases j with
   | zero =>
    simp [icell] at hu
    subst hu
    have := hcell k om
    rw [List.getD_eq_getElem?_getD, hk] at this
    rw [Nat.mul_one, Nat.add_zero]
    rw [add_plain] at this
    exact this
   | succ j => simp [icell] at hu
  ·cases hk
def orderN : List Nat := [104, 97, 114, 110, 101, 115, 115, 32, 55, 101, 48, 57, 54, 53, 99, 53, 56, 54, 50, 48, 53, 101, 50, 57, 53, 97, 99, 57, 53, 56, 98, 100, 52, 101, 101, 55, 102, 54, 99, 102, 55, 100, 53, 102, 53, 50, 97, 49, 57, 102, 99, 99, 102, 52, 99, 49, 50, 48, 99, 54, 56, 48, 48, 100, 102, 98, 98, 53, 99, 54, 49, 48, 32, 99, 117, 116, 32, 97, 116, 32, 109, 117, 115, 99, 111, 118, 97, 100, 111, 47, 109, 117, 115, 99, 111, 118, 97, 100, 111, 108, 97, 119, 48, 52, 46, 67, 104, 97, 114, 70, 101, 119, 101, 115, 116, 32, 109, 117, 115, 99, 111, 118, 97, 100, 111, 47, 109, 117, 115, 99, 111, 118, 97, 100, 111, 108, 97, 119, 48, 52, 46, 67, 104, 97, 114, 70, 105, 114, 115, 116, 32, 109, 117, 115, 99, 111, 118, 97, 100, 111, 47, 109, 117, 115, 99, 111, 118, 97, 100, 111, 108, 97, 119, 48, 52, 46, 67, 104, 97, 114, 66, 117, 121, 32, 109, 117, 115, 99, 111, 118, 97, 100, 111, 47, 109, 117, 115, 99, 111, 118, 97, 100, 111, 108, 97, 119, 48, 52, 46, 67, 104, 97, 114, 83, 116, 114, 111, 110, 103, 101, 114, 32, 109, 117, 115, 99, 111, 118, 97, 100, 111, 47, 109, 117, 115, 99, 111, 118, 97, 100, 111, 108, 97, 119, 48, 52, 46, 67, 104, 97, 114, 67, 108, 101, 97, 114, 101, 100, 32, 109, 117, 115, 99, 111, 118, 97, 100, 111, 47, 109, 117, 115, 99, 111, 118, 97, 100, 111, 108, 97, 119, 48, 52, 46, 67, 104, 97, 114, 65, 103, 97, 105, 110, 32, 109, 117, 115, 99, 111, 118, 97, 100, 111, 47, 109, 117, 115, 99, 111, 118, 97, 100, 111, 108, 97, 119, 48, 52, 46, 67, 104, 97, 114, 78, 101, 101, 100, 101, 100, 32, 109, 117, 115, 99, 111, 118, 97, 100, 111, 47, 109, 117, 115, 99, 111, 118, 97, 100, 111, 108, 97, 119, 48, 52, 46, 67, 104, 97, 114, 76, 101, 102, 116, 32, 109, 117, 115, 99, 111, 118, 97, 100, 111, 47, 109, 117, 115, 99, 111, 118, 97, 100, 111, 108, 97, 119, 48, 52, 46, 67, 104, 97, 114, 77, 111, 115, 116, 32, 109, 117, 115, 99, 111, 118, 97, 100, 111, 47, 109, 117, 115, 99, 111, 118, 97, 100, 111, 108, 97, 119, 48, 52, 46, 67, 104, 97, 114, 75, 110, 111, 119, 110]
def wordsN : List (List Nat) := [[104, 97, 114, 110, 101, 115, 115], [55, 101, 48, 57, 54, 53, 99, 53, 56, 54, 50, 48, 53, 101, 50, 57, 53, 97, 99, 57, 53, 56, 98, 100, 52, 101, 101, 55, 102, 54, 99, 102, 55, 100, 53, 102, 53, 50, 97, 49, 57, 102, 99, 99, 102, 52, 99, 49, 50, 48, 99, 54, 56, 48, 48, 100, 102, 98, 98, 53, 99, 54, 49, 48], [99, 117, 116], [97, 116], [109, 117, 115, 99, 111, 118, 97, 100, 111, 47, 109, 117, 115, 99, 111, 118, 97, 100, 111, 108, 97, 119, 48, 52, 46, 67, 104, 97, 114, 70, 101, 119, 101, 115, 116], [109, 117, 115, 99, 111, 118, 97, 100, 111, 47, 109, 117, 115, 99, 111, 118, 97, 100, 111, 108, 97, 119, 48, 52, 46, 67, 104, 97, 114, 70, 105, 114, 115, 116], [109, 117, 115, 99, 111, 118, 97, 100, 111, 47, 109, 117, 115, 99, 111, 118, 97, 100, 111, 108, 97, 119, 48, 52, 46, 67, 104, 97, 114, 66, 117, 121], [109, 117, 115, 99, 111, 118, 97, 100, 111, 47, 109, 117, 115, 99, 111, 118, 97, 100, 111, 108, 97, 119, 48, 52, 46, 67, 104, 97, 114, 83, 116, 114, 111, 110, 103, 101, 114], [109, 117, 115, 99, 111, 118, 97, 100, 111, 47, 109, 117, 115, 99, 111, 118, 97, 100, 111, 108, 97, 119, 48, 52, 46, 67, 104, 97, 114, 67, 108, 101, 97, 114, 101, 100], [109, 117, 115, 99, 111, 118, 97, 100, 111, 47, 109, 117, 115, 99, 111, 118, 97, 100, 111, 108, 97, 119, 48, 52, 46, 67, 104, 97, 114, 65, 103, 97, 105, 110], [109, 117, 115, 99, 111, 118, 97, 100, 111, 47, 109, 117, 115, 99, 111, 118, 97, 100, 111, 108, 97, 119, 48, 52, 46, 67, 104, 97, 114, 78, 101, 101, 100, 101, 100], [109, 117, 115, 99, 111, 118, 97, 100, 111, 47, 109, 117, 115, 99, 111, 118, 97, 100, 111, 108, 97, 119, 48, 52, 46, 67, 104, 97, 114, 76, 101, 102, 116], [109, 117, 115, 99, 111, 118, 97, 100, 111, 47, 109, 117, 115, 99, 111, 118, 97, 100, 111, 108, 97, 119, 48, 52, 46, 67, 104, 97, 114, 77, 111, 115, 116], [109, 117, 115, 99, 111, 118, 97, 100, 111, 47, 109, 117, 115, 99, 111, 118, 97, 100, 111, 108, 97, 119, 48, 52, 46, 67, 104, 97, 114, 75, 110, 111, 119, 110]]
set_option maxRecDepth 100000 in
theorem zV8 : Try.prog.initOrder = String.ofList (orderN.map Char.ofNat) := by kernel_rfl
theorem zT2 : Try.prog.initOrder.toList = orderN.map Char.ofNat := by rw [zV8, String.toList_ofList]
def wordN (k : Nat) : List Char := (wordsN.getD k []).map Char.ofNat
def wordR : List (List Char) := (wordsN.drop 3).map (·.map Char.ofNat)
set_option maxRecDepth 100000 in
theorem zT7 : wordsSigns Try.prog.initOrder.toList = wordN 0 :: wordN 1 :: wordN 2 :: wordR := by
 rw [zT2]
 kernel_rfl
theorem zP8 {a b : List Char} {r : List (List Char)} (h1 : (a == "harness".toList || a == "ownmain".toList) = true) (h2 : isSumSigns b = true) : behindMainWord (a :: b :: r) = r := by
 unfold behindMainWord
 dsimp only
 rw [h1, h2]
 rfl
theorem zLr : behindMainWord (wordsSigns Try.prog.initOrder.toList) = wordN 2 :: wordR := by
 rw [zT7]
 exact zP8 kr kr
theorem zTl {P : Program} {c : List Char} {rest : List (List Char)} (h : behindMainWord (wordsSigns P.initOrder.toList) = c :: rest) (h1 : (c == "gc".toList || c == "spec".toList) = false) (h2 : (c == "cut".toList) = true) : P.make = some .cut := by
 unfold Program.make
 rw [h]
 dsimp only
 rw [h1, h2]
 rfl
theorem zVt {P : Program} {c : List Char} {rest : List (List Char)} (h : behindMainWord (wordsSigns P.initOrder.toList) = c :: rest) (h1 : (stripLifts liftWords (c :: rest)).1 = []) (h2 : ((stripLifts liftWords (c :: rest)).2.head? == some "cut".toList) = true) (h3 : P.laysLater = false) (h4 : P.bearsReflect = false) (h5 : P.doorFits [] = true) : P.mayEnter = true := by
 unfold Program.mayEnter
 rw [h]
 dsimp only
 rw [h1, h2, h3, h4, h5]
 simp
theorem zRx {P : Program} {c : List Char} {rest : List (List Char)} (h : behindMainWord (wordsSigns P.initOrder.toList) = c :: rest) (h1 : (stripLifts liftWords (c :: rest)).1 = []) (h2 : (c == "carried".toList) = false) : P.liftsFinal = false := by
 have e : (some c == some "carried".toList) = false := h2
 unfold Program.liftsFinal Program.headLifts
 dsimp only
 rw [h, h1, List.head?_cons, e]
 simp
theorem zHv : (stripLifts liftWords (wordN 2 :: wordR)).1 = [] := by kernel_rfl
set_option maxRecDepth 100000 in
theorem zW1 : Try.prog.make = some .cut := zTl zLr (by kernel_rfl) (by kernel_rfl)
set_option maxRecDepth 100000 in
theorem zV7 : Try.prog.liftsFinal = false := zRx zLr zHv (by kernel_rfl)
set_option maxRecDepth 100000 in
theorem zN7 : Try.prog.laysLater = false := by kernel_rfl
set_option maxRecDepth 100000 in
theorem zJz : Try.prog.bearsReflect = false := by kernel_rfl
set_option maxRecDepth 100000 in
theorem zWy : Try.prog.doorFits [] = true := by kernel_rfl
set_option maxRecDepth 100000 in
theorem may_ : Try.prog.mayEnter = true := zVt zLr zHv (by kernel_rfl) zN7 zJz zWy
set_option maxRecDepth 100000 in
theorem zOh : mapsRowed Try.prog = true := by kernel_rfl
set_option maxRecDepth 100000 in
theorem zOx : Try.prog.plainKeys = false := by kernel_rfl
set_option maxRecDepth 100000 in
theorem zL2 : Try.prog.stopsHeard = true := by kernel_rfl
end Go.Proofs.Yteppiphdbondeaa.N
namespace Go.Proofs.Yteppiphdbondeaa.N
open Go Go.RowKit Go.Proofs
set_option linter.unusedSectionVars false
theorem zR8 (W : World) : @RdC (ZS W) (reaC_main W.heap.size) (seenZ W) := ⟨by show W.heap.size <= (seenZ W).heap.size; simp [seenZ, seenW], rfl⟩
end Go.Proofs.Yteppiphdbondeaa.N
