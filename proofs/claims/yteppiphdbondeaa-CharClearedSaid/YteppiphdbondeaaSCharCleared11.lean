/- Parts of the walk of the law CharCleared: RowC, RowC2. -/
import Derived.Test.YteppiphdbondeaaSCharCleared10
import Derived.Test.YteppiphdbondeaaSCharCleared08
import Derived.Test.YteppiphdbondeaaSCharCleared05
import Derived.Test.YteppiphdbondeaaRows
import Derived.ChangeSame
import Derived.ChangeVars
import Derived.JoinedOf
import Derived.RowKit
import Derived.RowKitTokens
import Derived.WitnessAt
import Derived.Stop.Joined
import Derived.ProofKit
import Derived.SizedLaws
import Derived.OpenShut
import Derived.Conc.Holds
/- What rows of laws about char share: the program's closed facts, and the law from its call in company. -/
namespace Go.Proofs.Yteppiphdbondeaa.N
open Go Go.ChangeShapes Go.WideShapes Go.ChangeAt Go.RowKit Go.Proofs Go.Proofs.Yteppiphdbondeaa Go.Proofs.Yteppiphdbondeaa.Rows
set_option linter.unusedSectionVars false
theorem own_ : ownKnob Try.prog.godebug = Option.none := by kernel_rfl
theorem zL5 : laidOutB Try.prog = true := by kernel_rfl
theorem zUl : Try.prog.cellsOf 3 = 1 := by kernel_rfl
theorem zRa : Try.prog.underlying 22 = some (.slice 3) := by kernel_rfl
theorem zYj : Try.prog.underlying 3 = some (.int .i64) := by kernel_rfl
theorem zYc : Try.prog.underlying 4 = some .bool := by kernel_rfl
theorem zVd : Try.prog.readableRec 22 = true := by kernel_rfl
set_option maxRecDepth 100000 in
theorem zYe : 22 < Try.prog.types.size := of_decide_eq_true (by kernel_rfl)
theorem zTo {α : Type} {cells : α -> List Value} {size : Nat} {W : World} {A : Option Addr} {l : List α} (h : RdL cells size W A l) : RdL cells size (seenZ W) A l := fun hl => by
 obtain ⟨b, o, h1, h2, h3⟩ := h hl
 exact ⟨b, o, h1, by simpa [seenZ, seenW] using h2, fun k x hk j u hu => zP0 (h3 k x hk j u hu)⟩
abbrev ZS (W : World) : Sys := zSys Try.prog (Cp W.heap.size 131 msgM)
set_option maxRecDepth 100000 in
theorem zIu {H : Type} {enc : TypeId × Value -> H} {f : FuncId} {fn : Func} {s : ChangeSpec} (hp : fn.params = #[22]) (hr : fn.resultTypes = #[4]) (hs : s.vars = []) (hfn : ∀ d : DataW H, s.fn H [d] = { results := [.lit (.bool true)], args := [d] })
  (W : World) (law : ∀ (nA : Option Addr) (nc : Nat) (nums : List Int), RdL icell 1 (seenZ W) nA nums -> @Calls Try.prog (ZS W) f #[.slice nA nums.length nc] (seenZ W) fun e w' => e = .returned (.bool true) ∧ Grew (seenZ W) w' [])
  (base : Nat) (args : Array Value) (ds gs : List (DataW H)) (before : List MemPlace)
  (hval : ∀ (j : Nat) t v, fn.params[j]? = some t -> args[j]? = some v -> Value.okWide Try.prog W .any base t v)
  (hW : DataW.Whole enc Try.prog fn.params.toList s.vars false W args.toList ds gs before) :
  @Calls Try.prog (ZS W) f args (seenZ W) fun e v' => ∃ x, e = .returned x ∧ Below (seenZ W).heap.size (seenZ W) v' ∧ ∀ W', Below W.heap.size W W' -> s.post enc Try.prog fn false true false false W args x W' := by
 have hW' := hW
 obtain ⟨p, q, hA, hV, rfl, _, _⟩ := hW
 rw [hs] at hV
 rw [hp] at hA hval
 obtain ⟨v0, d0, rfl, rfl, h0⟩ := trodAll_one hA
 obtain ⟨rfl, rfl⟩ := trodVars_none hV
 obtain ⟨a0, len, cap, rfl⟩ := okWide_slice zRa (hval 0 22 v0 rfl rfl)
 have h0k := h0
 obtain ⟨fuel, hf⟩ := h0
 clear hA
 simp only [List.append_nil] at hW'
 have hlt : ∀ x ∈ p, x.block < W.heap.size := fun x hx => by simpa using hW'.lt x hx
 have hargs : ∀ (W' : World), Below W.heap.size W W' -> DataW.Trod enc Try.prog W' 0 (fun b => decide (b < W.heap.size)) true 22 (.slice a0 len cap) d0 p :=
  fun W' hn => Below.trod zL5 zVd zYe h0k hn hlt
 have close : ∀ nums : List Int, nums.length = len -> RdL icell 1 W a0 nums -> @Calls Try.prog (ZS W) f #[.slice a0 len cap] (seenZ W) fun e v' => ∃ x, e = .returned x ∧ Below (seenZ W).heap.size (seenZ W) v' ∧ ∀ W', Below W.heap.size W W' -> s.post enc Try.prog fn false true false false W #[.slice a0 len cap] x W' := by
  intro nums hn hR
  have hl := law a0 cap nums (zTo hR)
  rw [hn] at hl
  refine @Calls.mono _ (ZS W) _ _ _ _ _ hl fun e v' ⟨he, hg⟩ => ⟨_, he, hg.1, fun W' hb => ?_⟩
  refine ⟨_, _, _, [], p, [], hW', ?_, ?_, ?_, hb.frame _, fun h => Bool.noConfusion h⟩
  ·rw [show s.fn H ([d0] ++ []) = _ from hfn d0, hr]; exact trodAll_mk1 (shut_bool zYc true)
  ·rw [show s.fn H ([d0] ++ []) = _ from hfn d0, hp]; exact trodAll_mk1 (hargs W' hb)
  ·rw [show s.fn H ([d0] ++ []) = _ from hfn d0, hs]; rfl
 rcases open_ints zRa zYj zUl hf with ⟨hcs, hx⟩ | ⟨a, len', cap', zs, hcs, _, hl, hm, hz, hx, hcell, hwz⟩
 ·simp [Value.cells] at hcs
  obtain ⟨rfl, rfl, rfl⟩ := hcs
  exact close [] rfl (fun h => absurd h (by simp))
 ·simp [Value.cells] at hcs
  obtain ⟨rfl, rfl, rfl⟩ := hcs
  simp only [Prod.mk.injEq] at hx
  obtain ⟨rfl, rfl⟩ := hx
  simp only [if_true] at hz
  obtain ⟨b, off, spot⟩ := a
  refine close (zs.take len) (by rw [List.length_take]; omega) (fun hpos => ?_)
  rw [List.length_take] at hpos
  have hspot : spot = Option.none := by simpa [Addr.add] using World.cell?_spot (hcell 0 om)
  subst hspot
  refine ⟨b, off, rfl, hlt (.cell b off) (MemPlace.mem_row.2 ⟨0, by omega, by simp⟩), fun k x hk j u hu => ?_⟩
  rw [List.getElem?_take] at hk
  split at hk
  ·rename_i hkl
   cases j with
   | zero =>
    simp [icell] at hu
    subst hu
    have := hcell k om
    rw [List.getD_eq_getElem?_getD, hk] at this
    rw [Nat.mul_one, Nat.add_zero]
    rw [add_plain] at this
    exact this
   | succ j => simp [icell] at hu
  ·cases hk
def orderN : List Nat := [104, 97, 114, 110, 101, 115, 115, 32, 55, 101, 48, 57, 54, 53, 99, 53, 56, 54, 50, 48, 53, 101, 50, 57, 53, 97, 99, 57, 53, 56, 98, 100, 52, 101, 101, 55, 102, 54, 99, 102, 55, 100, 53, 102, 53, 50, 97, 49, 57, 102, 99, 99, 102, 52, 99, 49, 50, 48, 99, 54, 56, 48, 48, 100, 102, 98, 98, 53, 99, 54, 49, 48, 32, 99, 117, 116, 32, 97, 116, 32, 109, 117, 115, 99, 111, 118, 97, 100, 111, 47, 109, 117, 115, 99, 111, 118, 97, 100, 111, 108, 97, 119, 48, 52, 46, 67, 104, 97, 114, 70, 101, 119, 101, 115, 116, 32, 109, 117, 115, 99, 111, 118, 97, 100, 111, 47, 109, 117, 115, 99, 111, 118, 97, 100, 111, 108, 97, 119, 48, 52, 46, 67, 104, 97, 114, 70, 105, 114, 115, 116, 32, 109, 117, 115, 99, 111, 118, 97, 100, 111, 47, 109, 117, 115, 99, 111, 118, 97, 100, 111, 108, 97, 119, 48, 52, 46, 67, 104, 97, 114, 66, 117, 121, 32, 109, 117, 115, 99, 111, 118, 97, 100, 111, 47, 109, 117, 115, 99, 111, 118, 97, 100, 111, 108, 97, 119, 48, 52, 46, 67, 104, 97, 114, 83, 116, 114, 111, 110, 103, 101, 114, 32, 109, 117, 115, 99, 111, 118, 97, 100, 111, 47, 109, 117, 115, 99, 111, 118, 97, 100, 111, 108, 97, 119, 48, 52, 46, 67, 104, 97, 114, 67, 108, 101, 97, 114, 101, 100, 32, 109, 117, 115, 99, 111, 118, 97, 100, 111, 47, 109, 117, 115, 99, 111, 118, 97, 100, 111, 108, 97, 119, 48, 52, 46, 67, 104, 97, 114, 65, 103, 97, 105, 110, 32, 109, 117, 115, 99, 111, 118, 97, 100, 111, 47, 109, 117, 115, 99, 111, 118, 97, 100, 111, 108, 97, 119, 48, 52, 46, 67, 104, 97, 114, 78, 101, 101, 100, 101, 100, 32, 109, 117, 115, 99, 111, 118, 97, 100, 111, 47, 109, 117, 115, 99, 111, 118, 97, 100, 111, 108, 97, 119, 48, 52, 46, 67, 104, 97, 114, 76, 101, 102, 116, 32, 109, 117, 115, 99, 111, 118, 97, 100, 111, 47, 109, 117, 115, 99, 111, 118, 97, 100, 111, 108, 97, 119, 48, 52, 46, 67, 104, 97, 114, 77, 111, 115, 116, 32, 109, 117, 115, 99, 111, 118, 97, 100, 111, 47, 109, 117, 115, 99, 111, 118, 97, 100, 111, 108, 97, 119, 48, 52, 46, 67, 104, 97, 114, 75, 110, 111, 119, 110]
def wordsN : List (List Nat) := [[104, 97, 114, 110, 101, 115, 115], [55, 101, 48, 57, 54, 53, 99, 53, 56, 54, 50, 48, 53, 101, 50, 57, 53, 97, 99, 57, 53, 56, 98, 100, 52, 101, 101, 55, 102, 54, 99, 102, 55, 100, 53, 102, 53, 50, 97, 49, 57, 102, 99, 99, 102, 52, 99, 49, 50, 48, 99, 54, 56, 48, 48, 100, 102, 98, 98, 53, 99, 54, 49, 48], [99, 117, 116], [97, 116], [109, 117, 115, 99, 111, 118, 97, 100, 111, 47, 109, 117, 115, 99, 111, 118, 97, 100, 111, 108, 97, 119, 48, 52, 46, 67, 104, 97, 114, 70, 101, 119, 101, 115, 116], [109, 117, 115, 99, 111, 118, 97, 100, 111, 47, 109, 117, 115, 99, 111, 118, 97, 100, 111, 108, 97, 119, 48, 52, 46, 67, 104, 97, 114, 70, 105, 114, 115, 116], [109, 117, 115, 99, 111, 118, 97, 100, 111, 47, 109, 117, 115, 99, 111, 118, 97, 100, 111, 108, 97, 119, 48, 52, 46, 67, 104, 97, 114, 66, 117, 121], [109, 117, 115, 99, 111, 118, 97, 100, 111, 47, 109, 117, 115, 99, 111, 118, 97, 100, 111, 108, 97, 119, 48, 52, 46, 67, 104, 97, 114, 83, 116, 114, 111, 110, 103, 101, 114], [109, 117, 115, 99, 111, 118, 97, 100, 111, 47, 109, 117, 115, 99, 111, 118, 97, 100, 111, 108, 97, 119, 48, 52, 46, 67, 104, 97, 114, 67, 108, 101, 97, 114, 101, 100], [109, 117, 115, 99, 111, 118, 97, 100, 111, 47, 109, 117, 115, 99, 111, 118, 97, 100, 111, 108, 97, 119, 48, 52, 46, 67, 104, 97, 114, 65, 103, 97, 105, 110], [109, 117, 115, 99, 111, 118, 97, 100, 111, 47, 109, 117, 115, 99, 111, 118, 97, 100, 111, 108, 97, 119, 48, 52, 46, 67, 104, 97, 114, 78, 101, 101, 100, 101, 100], [109, 117, 115, 99, 111, 118, 97, 100, 111, 47, 109, 117, 115, 99, 111, 118, 97, 100, 111, 108, 97, 119, 48, 52, 46, 67, 104, 97, 114, 76, 101, 102, 116], [109, 117, 115, 99, 111, 118, 97, 100, 111, 47, 109, 117, 115, 99, 111, 118, 97, 100, 111, 108, 97, 119, 48, 52, 46, 67, 104, 97, 114, 77, 111, 115, 116], [109, 117, 115, 99, 111, 118, 97, 100, 111, 47, 109, 117, 115, 99, 111, 118, 97, 100, 111, 108, 97, 119, 48, 52, 46, 67, 104, 97, 114, 75, 110, 111, 119, 110]]
set_option maxRecDepth 100000 in
theorem zWt : Try.prog.initOrder = String.ofList (orderN.map Char.ofNat) := by kernel_rfl
theorem zUd : Try.prog.initOrder.toList = orderN.map Char.ofNat := by rw [zWt, String.toList_ofList]
def wordN (k : Nat) : List Char := (wordsN.getD k []).map Char.ofNat
def wordR : List (List Char) := (wordsN.drop 3).map (·.map Char.ofNat)
set_option maxRecDepth 100000 in
theorem zVl : wordsSigns Try.prog.initOrder.toList = wordN 0 :: wordN 1 :: wordN 2 :: wordR := by
 rw [zUd]
 kernel_rfl
theorem zQr {a b : List Char} {r : List (List Char)} (h1 : (a == "harness".toList || a == "ownmain".toList) = true) (h2 : isSumSigns b = true) : behindMainWord (a :: b :: r) = r := by
 unfold behindMainWord
 dsimp only
 rw [h1, h2]
 rfl
theorem zMf : behindMainWord (wordsSigns Try.prog.initOrder.toList) = wordN 2 :: wordR := by
 rw [zVl]
 exact zQr kr kr
theorem zUi {P : Program} {c : List Char} {rest : List (List Char)} (h : behindMainWord (wordsSigns P.initOrder.toList) = c :: rest) (h1 : (c == "gc".toList || c == "spec".toList) = false) (h2 : (c == "cut".toList) = true) : P.make = some .cut := by
 unfold Program.make
 rw [h]
 dsimp only
 rw [h1, h2]
 rfl
theorem zW4 {P : Program} {c : List Char} {rest : List (List Char)} (h : behindMainWord (wordsSigns P.initOrder.toList) = c :: rest) (h1 : (stripLifts liftWords (c :: rest)).1 = []) (h2 : ((stripLifts liftWords (c :: rest)).2.head? == some "cut".toList) = true) (h3 : P.laysLater = false) (h4 : P.bearsReflect = false) (h5 : P.doorFits [] = true) : P.mayEnter = true := by
 unfold Program.mayEnter
 rw [h]
 dsimp only
 rw [h1, h2, h3, h4, h5]
 simp
theorem zS0 {P : Program} {c : List Char} {rest : List (List Char)} (h : behindMainWord (wordsSigns P.initOrder.toList) = c :: rest) (h1 : (stripLifts liftWords (c :: rest)).1 = []) (h2 : (c == "carried".toList) = false) : P.liftsFinal = false := by
 have e : (some c == some "carried".toList) = false := h2
 unfold Program.liftsFinal Program.headLifts
 dsimp only
 rw [h, h1, List.head?_cons, e]
 simp
theorem zHl : (stripLifts liftWords (wordN 2 :: wordR)).1 = [] := by kernel_rfl
set_option maxRecDepth 100000 in
theorem zYd : Try.prog.make = some .cut := zUi zMf (by kernel_rfl) (by kernel_rfl)
set_option maxRecDepth 100000 in
theorem zXc : Try.prog.liftsFinal = false := zS0 zMf zHl (by kernel_rfl)
set_option maxRecDepth 100000 in
theorem zOx : Try.prog.laysLater = false := by kernel_rfl
set_option maxRecDepth 100000 in
theorem zKb : Try.prog.bearsReflect = false := by kernel_rfl
set_option maxRecDepth 100000 in
theorem zYa : Try.prog.doorFits [] = true := by kernel_rfl
set_option maxRecDepth 100000 in
theorem may_ : Try.prog.mayEnter = true := zW4 zMf zHl (by kernel_rfl) zOx zKb zYa
set_option maxRecDepth 100000 in
theorem zPb : mapsRowed Try.prog = true := by kernel_rfl
set_option maxRecDepth 100000 in
theorem zPz : Try.prog.plainKeys = false := by kernel_rfl
set_option maxRecDepth 100000 in
theorem zNb : Try.prog.stopsHeard = true := by kernel_rfl
end Go.Proofs.Yteppiphdbondeaa.N
namespace Go.Proofs.Yteppiphdbondeaa.N
open Go Go.RowKit Go.Proofs
set_option linter.unusedSectionVars false
theorem zTs (W : World) : @RdC (ZS W) (reaC_main W.heap.size) (seenZ W) := ⟨by show W.heap.size <= (seenZ W).heap.size; simp [seenZ, seenW], rfl⟩
end Go.Proofs.Yteppiphdbondeaa.N
