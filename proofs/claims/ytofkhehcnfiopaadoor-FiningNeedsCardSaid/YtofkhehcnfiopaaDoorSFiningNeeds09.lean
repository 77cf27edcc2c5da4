/- Parts of the walks of the laws on fining, those that FiningNeeds needs: RowK, RowK2. -/
import Derived.Test.YtofkhehcnfiopaaDoorSFiningNeeds08
import Derived.Test.YtofkhehcnfiopaaDoorSFiningNeeds00
import Derived.Test.YtofkhehcnfiopaaDoorRows
import Derived.ChangeSame
import Derived.ChangeVars
import Derived.JoinedOf
import Derived.RowKit
import Derived.RowKitTokens
import Derived.LaidLaws
import Derived.LaidHandle
import Derived.Stop.Joined
import Derived.ProofKit
import Derived.SizedLaws
import Derived.OpenShut
import Derived.SevenTiedAt
import Derived.Conc.Holds
import Derived.Test.YtofkhehcnfiopaaDoorSFiningNeeds07
import Derived.Deep.Slices
/- What rows of laws about numbers share: the laid world, and the law from its lone call. -/
namespace Go.Proofs.YtofkhehcnfiopaaDoor.N
open Go Go.ChangeShapes Go.WideShapes Go.ChangeAt Go.RowKit Go.Proofs Go.Proofs.YtofkhehcnfiopaaDoor Go.Proofs.YtofkhehcnfiopaaDoor.Rows
theorem own_ : ownKnob Tryd.prog.godebug = Option.none := by kernel_rfl
theorem laidOut_ : laidOutB Tryd.prog = true := by kernel_rfl
theorem cells3_ : Tryd.prog.cellsOf 3 = 1 := by kernel_rfl
theorem und25_ : Tryd.prog.underlying 25 = some (.slice 3) := by kernel_rfl
theorem und3_ : Tryd.prog.underlying 3 = some (.int .i64) := by kernel_rfl
theorem und4_ : Tryd.prog.underlying 4 = some .bool := by kernel_rfl
theorem read25_ : Tryd.prog.readableRec 25 = true := by kernel_rfl
set_option maxRecDepth 100000 in
theorem size_ : 25 < Tryd.prog.types.size := of_decide_eq_true (by kernel_rfl)
def laidL : List (String × DataW Unit) := [("errors.errorType", laid_errors_errorType)]
/-- The settled world, with the one listed variable laid. -/
noncomputable def laidWorld (os : Os) : World :=
  let w0 := World.holding Tryd.prog os ⟨#[], #[], []⟩
  { w0 with heap := w0.heap.modify 0 fun
      | .cells _ t frozen => .cells #[.iface 166 (.agg #[.pointer (some ⟨1, 107, Option.none⟩)])] t frozen
      | o => o }
theorem laidWorld_met (os : Os) (args : Array Value) : laidMetH Tryd.prog laidL ((laidWorld os).forCall (fun _ _ => 0) ⟨#[], args, []⟩).memory :=
  laidMetH_of_parts (laidMet_nil _ _) (by kernel_rfl)
/-! What the listed variable holds. -/
/-! The program's order of start-up, letter by letter: what is said of it is then soon shown. -/
def orderN : List Nat := [104, 97, 114, 110, 101, 115, 115, 32, 52, 51, 55, 51, 50, 49, 102, 55, 48, 48, 50, 49, 100, 55, 53, 49, 98, 55, 102, 54, 57, 52, 102, 101, 54, 102, 52, 54, 99, 48, 98, 99, 101, 56, 49, 49, 56, 98, 100, 51, 55, 102, 52, 101, 52, 49, 49, 99, 97, 53, 99, 100, 55, 50, 51, 98, 48, 101, 48, 53, 57, 50, 100, 98, 32, 99, 117, 116, 32, 97, 116, 32, 109, 117, 115, 99, 111, 118, 97, 100, 111, 47, 109, 117, 115, 99, 111, 118, 97, 100, 111, 108, 97, 119, 48, 57, 46, 70, 105, 110, 105, 110, 103, 66, 111, 116, 104, 115, 32, 109, 117, 115, 99, 111, 118, 97, 100, 111, 47, 109, 117, 115, 99, 111, 118, 97, 100, 111, 108, 97, 119, 48, 57, 46, 70, 105, 110, 105, 110, 103, 67, 104, 101, 97, 112, 101, 115, 116, 32, 109, 117, 115, 99, 111, 118, 97, 100, 111, 47, 109, 117, 115, 99, 111, 118, 97, 100, 111, 108, 97, 119, 48, 57, 46, 70, 105, 110, 105, 110, 103, 66, 111, 116, 104, 32, 109, 117, 115, 99, 111, 118, 97, 100, 111, 47, 109, 117, 115, 99, 111, 118, 97, 100, 111, 108, 97, 119, 48, 57, 46, 70, 105, 110, 105, 110, 103, 84, 101, 108, 108, 115, 32, 109, 117, 115, 99, 111, 118, 97, 100, 111, 47, 109, 117, 115, 99, 111, 118, 97, 100, 111, 108, 97, 119, 48, 57, 46, 70, 105, 110, 105, 110, 103, 80, 117, 116, 32, 109, 117, 115, 99, 111, 118, 97, 100, 111, 47, 109, 117, 115, 99, 111, 118, 97, 100, 111, 108, 97, 119, 48, 57, 46, 70, 105, 110, 105, 110, 103, 80, 117, 116, 115, 32, 109, 117, 115, 99, 111, 118, 97, 100, 111, 47, 109, 117, 115, 99, 111, 118, 97, 100, 111, 108, 97, 119, 48, 57, 46, 70, 105, 110, 105, 110, 103, 77, 111, 114, 101, 32, 109, 117, 115, 99, 111, 118, 97, 100, 111, 47, 109, 117, 115, 99, 111, 118, 97, 100, 111, 108, 97, 119, 48, 57, 46, 70, 105, 110, 105, 110, 103, 78, 117, 109, 98, 101, 114, 101, 100, 32, 109, 117, 115, 99, 111, 118, 97, 100, 111, 47, 109, 117, 115, 99, 111, 118, 97, 100, 111, 108, 97, 119, 48, 57, 46, 70, 105, 110, 105, 110, 103, 78, 101, 101, 100, 115, 32, 109, 117, 115, 99, 111, 118, 97, 100, 111, 47, 109, 117, 115, 99, 111, 118, 97, 100, 111, 108, 97, 119, 48, 57, 46, 70, 105, 110, 105, 110, 103, 78, 101, 101, 100, 101, 100, 32, 109, 117, 115, 99, 111, 118, 97, 100, 111, 47, 109, 117, 115, 99, 111, 118, 97, 100, 111, 108, 97, 119, 48, 57, 46, 70, 105, 110, 105, 110, 103, 87, 97, 121, 115, 32, 109, 117, 115, 99, 111, 118, 97, 100, 111, 47, 109, 117, 115, 99, 111, 118, 97, 100, 111, 108, 97, 119, 48, 57, 46, 70, 105, 110, 105, 110, 103, 82, 101, 97, 99, 104, 32, 109, 117, 115, 99, 111, 118, 97, 100, 111, 47, 109, 117, 115, 99, 111, 118, 97, 100, 111, 108, 97, 119, 48, 57, 46, 70, 105, 110, 105, 110, 103, 83, 104, 111, 114, 116, 101, 115, 116, 32, 109, 117, 115, 99, 111, 118, 97, 100, 111, 47, 109, 117, 115, 99, 111, 118, 97, 100, 111, 108, 97, 119, 48, 57, 46, 70, 105, 110, 105, 110, 103, 72, 111, 112, 101, 108, 101, 115, 115, 32, 109, 117, 115, 99, 111, 118, 97, 100, 111, 47, 109, 117, 115, 99, 111, 118, 97, 100, 111, 108, 97, 119, 48, 57, 46, 70, 105, 110, 105, 110, 103, 70, 97, 117, 108, 116, 115, 32, 109, 117, 115, 99, 111, 118, 97, 100, 111, 47, 109, 117, 115, 99, 111, 118, 97, 100, 111, 108, 97, 119, 48, 57, 46, 70, 105, 110, 105, 110, 103, 72, 111, 112, 101, 115, 32, 109, 117, 115, 99, 111, 118, 97, 100, 111, 47, 109, 117, 115, 99, 111, 118, 97, 100, 111, 108, 97, 119, 48, 57, 46, 70, 105, 110, 105, 110, 103, 70, 101, 119, 101, 115, 116, 32, 109, 117, 115, 99, 111, 118, 97, 100, 111, 47, 109, 117, 115, 99, 111, 118, 97, 100, 111, 108, 97, 119, 48, 57, 46, 70, 105, 110, 105, 110, 103, 75, 110, 111, 119, 110]
def wordsN : List (List Nat) := [[104, 97, 114, 110, 101, 115, 115], [52, 51, 55, 51, 50, 49, 102, 55, 48, 48, 50, 49, 100, 55, 53, 49, 98, 55, 102, 54, 57, 52, 102, 101, 54, 102, 52, 54, 99, 48, 98, 99, 101, 56, 49, 49, 56, 98, 100, 51, 55, 102, 52, 101, 52, 49, 49, 99, 97, 53, 99, 100, 55, 50, 51, 98, 48, 101, 48, 53, 57, 50, 100, 98], [99, 117, 116], [97, 116], [109, 117, 115, 99, 111, 118, 97, 100, 111, 47, 109, 117, 115, 99, 111, 118, 97, 100, 111, 108, 97, 119, 48, 57, 46, 70, 105, 110, 105, 110, 103, 66, 111, 116, 104, 115], [109, 117, 115, 99, 111, 118, 97, 100, 111, 47, 109, 117, 115, 99, 111, 118, 97, 100, 111, 108, 97, 119, 48, 57, 46, 70, 105, 110, 105, 110, 103, 67, 104, 101, 97, 112, 101, 115, 116], [109, 117, 115, 99, 111, 118, 97, 100, 111, 47, 109, 117, 115, 99, 111, 118, 97, 100, 111, 108, 97, 119, 48, 57, 46, 70, 105, 110, 105, 110, 103, 66, 111, 116, 104], [109, 117, 115, 99, 111, 118, 97, 100, 111, 47, 109, 117, 115, 99, 111, 118, 97, 100, 111, 108, 97, 119, 48, 57, 46, 70, 105, 110, 105, 110, 103, 84, 101, 108, 108, 115], [109, 117, 115, 99, 111, 118, 97, 100, 111, 47, 109, 117, 115, 99, 111, 118, 97, 100, 111, 108, 97, 119, 48, 57, 46, 70, 105, 110, 105, 110, 103, 80, 117, 116], [109, 117, 115, 99, 111, 118, 97, 100, 111, 47, 109, 117, 115, 99, 111, 118, 97, 100, 111, 108, 97, 119, 48, 57, 46, 70, 105, 110, 105, 110, 103, 80, 117, 116, 115], [109, 117, 115, 99, 111, 118, 97, 100, 111, 47, 109, 117, 115, 99, 111, 118, 97, 100, 111, 108, 97, 119, 48, 57, 46, 70, 105, 110, 105, 110, 103, 77, 111, 114, 101], [109, 117, 115, 99, 111, 118, 97, 100, 111, 47, 109, 117, 115, 99, 111, 118, 97, 100, 111, 108, 97, 119, 48, 57, 46, 70, 105, 110, 105, 110, 103, 78, 117, 109, 98, 101, 114, 101, 100], [109, 117, 115, 99, 111, 118, 97, 100, 111, 47, 109, 117, 115, 99, 111, 118, 97, 100, 111, 108, 97, 119, 48, 57, 46, 70, 105, 110, 105, 110, 103, 78, 101, 101, 100, 115], [109, 117, 115, 99, 111, 118, 97, 100, 111, 47, 109, 117, 115, 99, 111, 118, 97, 100, 111, 108, 97, 119, 48, 57, 46, 70, 105, 110, 105, 110, 103, 78, 101, 101, 100, 101, 100], [109, 117, 115, 99, 111, 118, 97, 100, 111, 47, 109, 117, 115, 99, 111, 118, 97, 100, 111, 108, 97, 119, 48, 57, 46, 70, 105, 110, 105, 110, 103, 87, 97, 121, 115], [109, 117, 115, 99, 111, 118, 97, 100, 111, 47, 109, 117, 115, 99, 111, 118, 97, 100, 111, 108, 97, 119, 48, 57, 46, 70, 105, 110, 105, 110, 103, 82, 101, 97, 99, 104], [109, 117, 115, 99, 111, 118, 97, 100, 111, 47, 109, 117, 115, 99, 111, 118, 97, 100, 111, 108, 97, 119, 48, 57, 46, 70, 105, 110, 105, 110, 103, 83, 104, 111, 114, 116, 101, 115, 116], [109, 117, 115, 99, 111, 118, 97, 100, 111, 47, 109, 117, 115, 99, 111, 118, 97, 100, 111, 108, 97, 119, 48, 57, 46, 70, 105, 110, 105, 110, 103, 72, 111, 112, 101, 108, 101, 115, 115], [109, 117, 115, 99, 111, 118, 97, 100, 111, 47, 109, 117, 115, 99, 111, 118, 97, 100, 111, 108, 97, 119, 48, 57, 46, 70, 105, 110, 105, 110, 103, 70, 97, 117, 108, 116, 115], [109, 117, 115, 99, 111, 118, 97, 100, 111, 47, 109, 117, 115, 99, 111, 118, 97, 100, 111, 108, 97, 119, 48, 57, 46, 70, 105, 110, 105, 110, 103, 72, 111, 112, 101, 115], [109, 117, 115, 99, 111, 118, 97, 100, 111, 47, 109, 117, 115, 99, 111, 118, 97, 100, 111, 108, 97, 119, 48, 57, 46, 70, 105, 110, 105, 110, 103, 70, 101, 119, 101, 115, 116], [109, 117, 115, 99, 111, 118, 97, 100, 111, 47, 109, 117, 115, 99, 111, 118, 97, 100, 111, 108, 97, 119, 48, 57, 46, 70, 105, 110, 105, 110, 103, 75, 110, 111, 119, 110]]
set_option maxRecDepth 100000 in
theorem order_ : Tryd.prog.initOrder = String.ofList (orderN.map Char.ofNat) := by kernel_rfl
theorem orderL_ : Tryd.prog.initOrder.toList = orderN.map Char.ofNat := by rw [order_, String.toList_ofList]
def wordN (k : Nat) : List Char := (wordsN.getD k []).map Char.ofNat
def wordR : List (List Char) := (wordsN.drop 3).map (·.map Char.ofNat)
set_option maxRecDepth 100000 in
theorem words0_ : wordsSigns Tryd.prog.initOrder.toList = wordN 0 :: wordN 1 :: wordN 2 :: wordR := by
  rw [orderL_]
  kernel_rfl
theorem behind_of {a b : List Char} {r : List (List Char)} (h1 : (a == "harness".toList || a == "ownmain".toList) = true) (h2 : isSumSigns b = true) : behindMainWord (a :: b :: r) = r := by
  unfold behindMainWord
  dsimp only
  rw [h1, h2]
  rfl
theorem words_ : behindMainWord (wordsSigns Tryd.prog.initOrder.toList) = wordN 2 :: wordR := by
  rw [words0_]
  exact behind_of (by kernel_rfl) (by kernel_rfl)
theorem make_of {P : Program} {c : List Char} {rest : List (List Char)} (h : behindMainWord (wordsSigns P.initOrder.toList) = c :: rest) (h1 : (c == "gc".toList || c == "spec".toList) = false) (h2 : (c == "cut".toList) = true) : P.make = some .cut := by
  unfold Program.make
  rw [h]
  dsimp only
  rw [h1, h2]
  rfl
theorem may_of {P : Program} {c : List Char} {rest : List (List Char)} (h : behindMainWord (wordsSigns P.initOrder.toList) = c :: rest) (h1 : (stripLifts liftWords (c :: rest)).1 = []) (h2 : ((stripLifts liftWords (c :: rest)).2.head? == some "cut".toList) = true) (h3 : P.laysLater = false) (h4 : P.bearsReflect = false) (h5 : P.doorFits [] = true) : P.mayEnter = true := by
  unfold Program.mayEnter
  rw [h]
  dsimp only
  rw [h1, h2, h3, h4, h5]
  simp
theorem lifts_of {P : Program} {c : List Char} {rest : List (List Char)} (h : behindMainWord (wordsSigns P.initOrder.toList) = c :: rest) (h1 : (stripLifts liftWords (c :: rest)).1 = []) (h2 : (c == "carried".toList) = false) : P.liftsFinal = false := by
  have e : (some c == some "carried".toList) = false := h2
  unfold Program.liftsFinal Program.headLifts
  dsimp only
  rw [h, h1, List.head?_cons, e]
  simp
theorem main_of {P : Program} {a b : List Char} {r : List (List Char)} {s : String} (h : wordsSigns P.initOrder.toList = a :: b :: r) (h1 : isSumSigns b = true) (h2 : (a == "harness".toList) = true) (h3 : s = String.ofList b) : P.mainIs = some (true, s.toList) := by
  unfold Program.mainIs
  rw [h]
  dsimp only
  rw [h1, h2, h3]
  simp [String.toList_ofList]
theorem word_lifts : (stripLifts liftWords (wordN 2 :: wordR)).1 = [] := by kernel_rfl
set_option maxRecDepth 100000 in
theorem make_ : Tryd.prog.make = some .cut := make_of words_ (by kernel_rfl) (by kernel_rfl)
set_option maxRecDepth 100000 in
theorem lifts_ : Tryd.prog.liftsFinal = false := lifts_of words_ word_lifts (by kernel_rfl)
set_option maxRecDepth 100000 in
theorem main_ : Tryd.prog.mainIs = some (true, "437321f70021d751b7f694fe6f46c0bce8118bd37f4e411ca5cd723b0e0592db".toList) := main_of words0_ (by kernel_rfl) (by kernel_rfl) (by kernel_rfl)
set_option maxRecDepth 100000 in
theorem laysLater_ : Tryd.prog.laysLater = false := by kernel_rfl
set_option maxRecDepth 100000 in
theorem bearsReflect_ : Tryd.prog.bearsReflect = false := by kernel_rfl
set_option maxRecDepth 100000 in
theorem door_ : Tryd.prog.doorFits [] = true := by kernel_rfl
set_option maxRecDepth 100000 in
theorem may_ : Tryd.prog.mayEnter = true := may_of words_ word_lifts (by kernel_rfl) laysLater_ bearsReflect_ door_
set_option maxRecDepth 100000 in
theorem mapsRowed_ : mapsRowed Tryd.prog = true := by kernel_rfl
set_option maxRecDepth 100000 in
theorem plainKeys_ : Tryd.prog.plainKeys = false := by kernel_rfl
set_option maxRecDepth 100000 in
theorem stopsHeard_ : Tryd.prog.stopsHeard = true := by kernel_rfl
set_option maxRecDepth 100000 in
theorem looks_ : Tryd.prog.looks [] = true := by kernel_rfl
/-- A tied card whose calls can start goroutines. -/
theorem holds_tied_goes (Lk : Looks) {p : Pinned} {s : OpenSpec} {c : OpenClaim} (kinds : List LaidKind) (tests : Bool) (har : Bool × String) (lk g : Bool)
    (hc : c.holds p s) (hw : c.wfByText s = true) (htie : c.laidByTextAt Lk p kinds tests)
    (hst : c.start = .entering) (hnb : c.noBlocks = false ∧ c.again = false) (hm : p.checked.prog.mainIs = some (har.1, har.2.toList)) (hn : (!har.1 && har.2.isEmpty && !lk) = false)
    (hl : ∀ f fn, p.checked.prog.funcNamed c.func = some f → p.checked.prog.funcs[f]? = some fn → lk = p.checked.prog.looks [] ∧ ∀ (j : Nat) t, fn.params[j]? = some t → p.checked.prog.wantsStandIn t = false)
    (hg : g = c.goesBy p.checked.prog) :
    Claim7.holds p (.plain s) { stood := { row := c, standIns := [], harness := har, looks := lk }, kinds := [], alts := [], goes := g, laidByText := true, laidKinds := kinds, laidTests := tests, laidLooks := Lk } := by
  have h6 : ∀ r : OpenClaim, Claim7.isSixth { stood := { row := r, standIns := [], harness := har, looks := lk }, kinds := [] } = false := fun r => by simpa [Claim7.isSixth] using hn
  refine ⟨Claim7.tied_new_at Lk kinds tests (Claim7.new_of_sixth hc har lk hst hnb hm (h6 c) hl) hw, fun D hD => ?_, htie, (fun h => by cases h), hg⟩
  cases hD
end Go.Proofs.YtofkhehcnfiopaaDoor.N
/- What rows of laws about agents share: lists of numbers, agents and lists of agents out of what the statement lets the input be. -/
namespace Go.Proofs.YtofkhehcnfiopaaDoor.N
open Go Go.ChangeShapes Go.WideShapes Go.ChangeAt Go.RowKit Go.Proofs Go.Proofs.YtofkhehcnfiopaaDoor Go.Proofs.YtofkhehcnfiopaaDoor.Rows
theorem trodAll_below {H : Type} {enc : TypeId × Value → H} {W W' : World} (hn : Below W.heap.size W W') : ∀ {ts : List TypeId} {vs : List Value} {ds : List (DataW H)} {ps : List MemPlace},
    (∀ t ∈ ts, Tryd.prog.readableRec t = true ∧ t < Tryd.prog.types.size) → DataW.TrodAll enc Tryd.prog W 0 (fun _ => true) true ts vs ds ps → (∀ x ∈ ps, x.block < W.heap.size) →
    DataW.TrodAll enc Tryd.prog W' 0 (fun b => decide (b < W.heap.size)) true ts vs ds ps
  | [], _, _, _, _, h, _ => by
    obtain ⟨rfl, rfl, rfl⟩ := trodAll_nil h
    exact trodAll_mk0
  | t :: ts, vs, ds, ps, hr, h, hlt => by
    obtain ⟨v, vs', d, ds', p, q, rfl, rfl, rfl, h1, h2⟩ := trodAll_cons h
    exact trodAll_cons_mk (Below.trod laidOut_ (hr t (by simp)).1 (hr t (by simp)).2 h1 hn (fun x hx => hlt x (List.mem_append_left _ hx))) (trodAll_below hn (fun u hu => hr u (by simp [hu])) h2 (fun x hx => hlt x (List.mem_append_right _ hx)))
set_option maxRecDepth 100000 in
/-- A law's answer out of its call. -/
theorem grown_post {H : Type} {enc : TypeId × Value → H} {f : FuncId} {fn : Func} {s : ChangeSpec} (hr : fn.resultTypes = #[4]) (hs : s.vars = []) (hread : ∀ t ∈ fn.params.toList, Tryd.prog.readableRec t = true ∧ t < Tryd.prog.types.size)
    {W : World} {args : Array Value} {ds gs : List (DataW H)} {before : List MemPlace} (hfn : s.fn H ds = { results := [.lit (.bool true)], args := ds })
    (hW : DataW.Whole enc Tryd.prog fn.params.toList s.vars false W args.toList ds gs before)
    (hc : Calls Tryd.prog f args W fun e w' => e = .returned (.bool true) ∧ Grew W w' []) :
    Calls Tryd.prog f args W fun e W' => ∃ v, e = .returned v ∧ s.post enc Tryd.prog fn false true false false W args v W' := by
  have hW' := hW
  obtain ⟨p, q, hA, hV, rfl, _, _⟩ := hW
  rw [hs] at hV
  obtain ⟨rfl, rfl⟩ := trodVars_none hV
  simp only [List.append_nil] at hW'
  refine hc.mono fun e W' ⟨he, hg⟩ => ?_
  subst he
  refine ⟨_, rfl, _, _, _, [], p, [], hW', ?_, ?_, ?_, hg.1.frame _, fun h => Bool.noConfusion h⟩
  · rw [List.append_nil, hfn, hr]; exact trodAll_mk1 (shut_bool und4_ true)
  · rw [List.append_nil, hfn]; exact trodAll_below hg.1 hread hA (fun x hx => hW'.lt x hx)
  · rw [List.append_nil, hfn, hs]; rfl
set_option maxRecDepth 100000 in
/-- A list of numbers. -/
theorem slice_ints {H : Type} {enc : TypeId × Value → H} {W : World} {base : Nat} {v : Value} {d : DataW H} {p : List MemPlace} (hok : Value.okWide Tryd.prog W .any base 25 v)
    (h : DataW.Trod enc Tryd.prog W 0 (fun _ => true) true 25 v d p) (hlt : ∀ x ∈ p, x.block < W.heap.size) :
    ∃ (A : Option Addr) (c : Nat) (l : List Int), v = .slice A l.length c ∧ RdL icell 1 W A l ∧ (A = Option.none → l = [] ∧ c = 0) := by
  obtain ⟨a0, len, cap, rfl⟩ := okWide_slice und25_ hok
  obtain ⟨fuel, hf⟩ := h
  rcases open_ints und25_ und3_ cells3_ hf with ⟨hcs, hx⟩ | ⟨a, len', cap', zs, hcs, _, hl, hm, hz, hx, hcell, hwz⟩
  · simp [Value.cells] at hcs
    obtain ⟨rfl, rfl, rfl⟩ := hcs
    exact ⟨_, _, [], rfl, fun h => absurd h (by simp), fun _ => ⟨rfl, rfl⟩⟩
  · simp [Value.cells] at hcs
    obtain ⟨rfl, rfl, rfl⟩ := hcs
    simp only [Prod.mk.injEq] at hx
    obtain ⟨rfl, rfl⟩ := hx
    simp only [if_true] at hz
    obtain ⟨b, off, spot⟩ := a
    have hlen : (zs.take len).length = len := by rw [List.length_take]; omega
    refine ⟨_, cap, zs.take len, by rw [hlen], fun hpos => ?_, fun h => by cases h⟩
    rw [hlen] at hpos
    have hspot : spot = Option.none := by simpa [Addr.add] using World.cell?_spot (hcell 0 (by omega))
    subst hspot
    refine ⟨b, off, rfl, hlt (.cell b off) (MemPlace.mem_row.2 ⟨0, by omega, by simp⟩), fun k x hk j u hu => ?_⟩
    rw [List.getElem?_take] at hk
    split at hk
    · rename_i hkl
      cases j with
      | zero =>
        simp [icell] at hu
        subst hu
        have := hcell k (by omega)
        rw [List.getD_eq_getElem?_getD, hk] at this
        rw [Nat.mul_one, Nat.add_zero]
        rw [add_plain] at this
        exact this
      | succ j => simp [icell] at hu
    · cases hk
set_option maxRecDepth 100000 in
/-- An agent. -/
theorem agent_cells {H : Type} {enc : TypeId × Value → H} {W : World} {fuel : Nat} {cs : List Value} {x : DataW H × List MemPlace} (h : DataW.trod enc Tryd.prog W 0 (fun _ => true) true fuel 24 cs = some x) :
    ∃ y : RA, y.wf ∧ cs = y.cells := by
  obtain ⟨xs, n, _, _, hcl, hxl, hf⟩ := DataW.trod_struct Tryd.underlying24 h
  rw [co24] at hcl
  match cs, hcl with
  | [v0, v1, v2, v3, v4], _ =>
    have g : ∀ (i : Nat) (v : Value), ([v0, v1, v2, v3, v4] : List Value)[i]? = some v → i < 5 → ∃ m, v = .int .i64 m ∧ W64 m := by
      intro i v hi h5
      have key : ∀ x, DataW.trod enc Tryd.prog W 0 (fun _ => true) true n 3 [v] = some x → ∃ m, v = .int .i64 m ∧ W64 m := fun x hx => by
        obtain ⟨m, h1, _, h3⟩ := DataW.trod_int und3_ hx
        exact ⟨m, List.singleton_inj.1 h1, bounds_i64 h3⟩
      match i, h5 with
      | 0, _ =>
        have := hf 0 _ rfl
        simp [cells3_] at this hi
        subst hi
        exact key _ (this.trans (List.getElem?_eq_getElem (by simp [hxl])))
      | 1, _ =>
        have := hf 1 _ rfl
        simp [cells3_] at this hi
        subst hi
        exact key _ (this.trans (List.getElem?_eq_getElem (by simp [hxl])))
      | 2, _ =>
        have := hf 2 _ rfl
        simp [cells3_] at this hi
        subst hi
        exact key _ (this.trans (List.getElem?_eq_getElem (by simp [hxl])))
      | 3, _ =>
        have := hf 3 _ rfl
        simp [cells3_] at this hi
        subst hi
        exact key _ (this.trans (List.getElem?_eq_getElem (by simp [hxl])))
      | 4, _ =>
        have := hf 4 _ rfl
        simp [cells3_] at this hi
        subst hi
        exact key _ (this.trans (List.getElem?_eq_getElem (by simp [hxl])))
    obtain ⟨m0, rfl, w0⟩ := g 0 v0 rfl (by omega)
    obtain ⟨m1, rfl, w1⟩ := g 1 v1 rfl (by omega)
    obtain ⟨m2, rfl, w2⟩ := g 2 v2 rfl (by omega)
    obtain ⟨m3, rfl, w3⟩ := g 3 v3 rfl (by omega)
    obtain ⟨m4, rfl, w4⟩ := g 4 v4 rfl (by omega)
    exact ⟨⟨m0, m1, m2, m3, m4⟩, ⟨w0, w1, w2, w3, w4⟩, rfl⟩
set_option maxRecDepth 100000 in
theorem arg_agent {H : Type} {enc : TypeId × Value → H} {W : World} {base : Nat} {v : Value} {d : DataW H} {p : List MemPlace} (hok : Value.okWide Tryd.prog W .any base 24 v)
    (h : DataW.Trod enc Tryd.prog W 0 (fun _ => true) true 24 v d p) : ∃ y : RA, y.wf ∧ v = .agg y.cells.toArray := by
  obtain ⟨cs, rfl, _⟩ := okWide_struct Tryd.underlying24 hok
  obtain ⟨fuel, hf⟩ := h
  obtain ⟨y, hy, hc⟩ := agent_cells hf
  simp only [Value.cells] at hc
  exact ⟨y, hy, by rw [← hc]⟩
set_option maxRecDepth 100000 in
/-- A list of agents. -/
theorem slice_agents {H : Type} {enc : TypeId × Value → H} {W : World} {base : Nat} {v : Value} {d : DataW H} {p : List MemPlace} (hok : Value.okWide Tryd.prog W .any base 22 v)
    (h : DataW.Trod enc Tryd.prog W 0 (fun _ => true) true 22 v d p) (hlt : ∀ x ∈ p, x.block < W.heap.size) :
    ∃ (A : Option Addr) (c : Nat) (l : List RA), v = .slice A l.length c ∧ RdL RA.cells 5 W A l ∧ (∀ y ∈ l, y.wf) ∧ (A = Option.none → l = [] ∧ c = 0) := by
  obtain ⟨a0, len, cap, rfl⟩ := okWide_slice Tryd.underlying22 hok
  obtain ⟨fuel, hf⟩ := h
  rcases Go.Deep.open_slice Tryd.underlying22 hf with ⟨hcs, hx⟩ | ⟨a, len', cap', m, n, D, Pl, hcs, _, hl, hm, hmm, hx, hi⟩
  · simp [Value.cells] at hcs
    obtain ⟨rfl, rfl, rfl⟩ := hcs
    exact ⟨_, _, [], rfl, fun h => absurd h (by simp), fun y hy => (List.not_mem_nil hy).elim, fun _ => ⟨rfl, rfl⟩⟩
  · simp [Value.cells] at hcs
    obtain ⟨rfl, rfl, rfl⟩ := hcs
    simp only [Prod.mk.injEq] at hx
    obtain ⟨rfl, rfl⟩ := hx
    simp only [if_true] at hmm
    subst hmm
    rw [co24] at hi
    obtain ⟨Y, hY⟩ := Go.Deep.choose_lt (α := RA) (p := fun i y => y.wf ∧ ∀ j u, y.cells[j]? = some u → W.cell? (a.add (i * 5 + j)) = some u) (fun i hlt' => by
      obtain ⟨cs', h1, h2⟩ := hi i hlt'
      obtain ⟨y, hy, rfl⟩ := agent_cells h2
      obtain ⟨_, _, h3⟩ := World.cells?_some h1
      refine ⟨y, hy, fun j u hu => ?_⟩
      have hj : j < 5 := by
        have := (List.getElem?_eq_some_iff.1 hu).1
        simpa [RA.cells] using this
      have := h3 j hj
      rw [hu, Go.Deep.add_add] at this
      exact this)
    have hlen : ((List.range len).map Y).length = len := by simp
    obtain ⟨b, off, spot⟩ := a
    refine ⟨_, m, (List.range len).map Y, by rw [hlen], fun hpos => ?_, fun y hy => ?_, fun h => by cases h⟩
    · rw [hlen] at hpos
      have hspot : spot = Option.none := by simpa [Addr.add] using World.cell?_spot ((hY 0 (by omega)).2 0 _ rfl)
      subst hspot
      refine ⟨b, off, rfl, hlt (.cell b off) (List.mem_append_left _ (MemPlace.mem_row.2 ⟨0, by rw [co24]; omega, by simp⟩)), fun k x hk j u hu => ?_⟩
      rw [List.getElem?_map] at hk
      obtain ⟨i, h1, rfl⟩ := Option.map_eq_some_iff.1 hk
      obtain ⟨h2, h3⟩ := List.getElem?_eq_some_iff.1 h1
      rw [List.getElem_range] at h3
      subst h3
      rw [List.length_range] at h2
      have := (hY k (by omega)).2 j u hu
      rw [add_plain, ← Nat.add_assoc] at this
      exact this
    · obtain ⟨i, h1, rfl⟩ := List.mem_map.1 hy
      exact (hY i (by have := List.mem_range.1 h1; omega)).1
set_option maxRecDepth 100000 in
theorem read22_ : Tryd.prog.readableRec 22 = true ∧ 22 < Tryd.prog.types.size := ⟨by kernel_rfl, of_decide_eq_true (by kernel_rfl)⟩
set_option maxRecDepth 100000 in
theorem read24_ : Tryd.prog.readableRec 24 = true ∧ 24 < Tryd.prog.types.size := ⟨by kernel_rfl, of_decide_eq_true (by kernel_rfl)⟩
set_option maxRecDepth 100000 in
theorem read3_ : Tryd.prog.readableRec 3 = true ∧ 3 < Tryd.prog.types.size := ⟨by kernel_rfl, of_decide_eq_true (by kernel_rfl)⟩
theorem read25b_ : Tryd.prog.readableRec 25 = true ∧ 25 < Tryd.prog.types.size := ⟨read25_, size_⟩
end Go.Proofs.YtofkhehcnfiopaaDoor.N
