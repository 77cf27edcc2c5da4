/-
  No cell of these rows narrows 'for every input' (looked for: loops, veiled, ifaces, maps, wideKeys, modest, calm, conditions, laid).
  DERIVED. THE GIVEN ROWS OF THIS SEAT. 10 by the template 'for every input the law returns true; each argument reads behind the call as it read before'; 0 by the template 'total and deterministic' (their statements: YteppiphdbondeaaTotals.lean).
  GIVEN WITH THE SEED: the statements are not yours to turn. If you find one false, say at which input.
  Laid BY PROGRAM, IN A SANDBOX (cutbox-rows.mjs): the forced cells as the released guide's own fill.sh prints them over the translation d0049b1d6ec464ee… (all of the seat's roots in one cut). By AI agents, Wed Nov 11 2026. No macro, syntax, notation, axiom, sorry.
-/
import Derived.Test.YteppiphdbondeaaChecked
import GoSem.Claim
import GoSem.ClaimJoined
import GoSem.ClaimMapViews
import Derived.JoinedTies
import Derived.KernelRfl
namespace Go.Proofs.Yteppiphdbondeaa
/- THE CELL 'sum', in the pinned program and in every row, IS THE sha256 OF THE DUMP (.gsa) THAT YteppiphdbondeaaProg.lean LOADS. Nothing in Lean hashes anything: it is a label: what it is worth is what the hold of that sum in a sandbox is worth. -/
noncomputable def Try.pinned : Pinned := { name := "yteppiphdbondeaa", sum := "d0049b1d6ec464ee60f518836374c8266979116dbbb4086b605b520aa82ae9fc", checked := Try.checked }
namespace Rows
def none {H : Type} : Left H := { results := [], args := [] }

/-- 'muscovadolaw04.CharFewest': WHATEVER THE INPUT: true; the input reads as it did. -/
def charFewestSpec : ChangeSpec := { name := "charFewest", fn := fun _ => fun
  | [d] => { results := [.lit (.bool true)], args := [d] }
  | _ => none }
def charFewestRow : OpenClaim := { program := "yteppiphdbondeaa", sum := "d0049b1d6ec464ee60f518836374c8266979116dbbb4086b605b520aa82ae9fc", func := "muscovado/muscovadolaw04.CharFewest", spec := "charFewest", inPlace := ["(*sync.WaitGroup).Add", "internal/race.ReleaseMerge", "internal/race.Disable", "internal/race.Enable", "internal/synctest.IsInBubble", "internal/synctest.Associate[sync.WaitGroup]", "sync.fatal", "sync/atomic.OrUint64", "sync/atomic.AddUint64", "internal/race.Read", "sync/atomic.LoadUint64", "sync/atomic.StoreUint64", "internal/synctest.Disassociate[sync.WaitGroup]", "sync.runtime_Semrelease", "(*sync.WaitGroup).Done", "(*sync.WaitGroup).Wait", "internal/race.Acquire", "internal/synctest.IsAssociated[sync.WaitGroup]", "sync/atomic.CompareAndSwapUint64", "internal/race.Write", "sync.runtime_SemacquireWaitGroup"], unfollowed := true, recurses := true, plainKeys := false, leaving := true, apart := false }
def CharFewestSaid : Prop := charFewestRow.holds Try.pinned (OpenSpec.ofChange charFewestSpec)

/-- ITS FALSE NEIGHBOUR: 'it returns false'. Refute it at one input. -/
def charFewestWrong : ChangeSpec := { name := "charFewest", fn := fun _ => fun
  | [d] => { results := [.lit (.bool false)], args := [d] }
  | _ => none }
def CharFewestWrongFalsely : Prop := charFewestRow.holds Try.pinned (OpenSpec.ofChange charFewestWrong)

/-- 'muscovadolaw04.CharFirst': WHATEVER THE INPUT: true; the input reads as it did. -/
def charFirstSpec : ChangeSpec := { name := "charFirst", fn := fun _ => fun
  | [d] => { results := [.lit (.bool true)], args := [d] }
  | _ => none }
def charFirstRow : OpenClaim := { program := "yteppiphdbondeaa", sum := "d0049b1d6ec464ee60f518836374c8266979116dbbb4086b605b520aa82ae9fc", func := "muscovado/muscovadolaw04.CharFirst", spec := "charFirst", inPlace := ["(*sync.WaitGroup).Add", "internal/race.ReleaseMerge", "internal/race.Disable", "internal/race.Enable", "internal/synctest.IsInBubble", "internal/synctest.Associate[sync.WaitGroup]", "sync.fatal", "sync/atomic.OrUint64", "sync/atomic.AddUint64", "internal/race.Read", "sync/atomic.LoadUint64", "sync/atomic.StoreUint64", "internal/synctest.Disassociate[sync.WaitGroup]", "sync.runtime_Semrelease", "(*sync.WaitGroup).Done", "(*sync.WaitGroup).Wait", "internal/race.Acquire", "internal/synctest.IsAssociated[sync.WaitGroup]", "sync/atomic.CompareAndSwapUint64", "internal/race.Write", "sync.runtime_SemacquireWaitGroup"], unfollowed := true, recurses := true, plainKeys := false, leaving := true, apart := false }
def CharFirstSaid : Prop := charFirstRow.holds Try.pinned (OpenSpec.ofChange charFirstSpec)

/-- ITS FALSE NEIGHBOUR: 'it returns false'. Refute it at one input. -/
def charFirstWrong : ChangeSpec := { name := "charFirst", fn := fun _ => fun
  | [d] => { results := [.lit (.bool false)], args := [d] }
  | _ => none }
def CharFirstWrongFalsely : Prop := charFirstRow.holds Try.pinned (OpenSpec.ofChange charFirstWrong)

/-- 'muscovadolaw04.CharBuy': WHATEVER THE INPUT: true; the input reads as it did. -/
def charBuySpec : ChangeSpec := { name := "charBuy", fn := fun _ => fun
  | [d] => { results := [.lit (.bool true)], args := [d] }
  | _ => none }
def charBuyRow : OpenClaim := { program := "yteppiphdbondeaa", sum := "d0049b1d6ec464ee60f518836374c8266979116dbbb4086b605b520aa82ae9fc", func := "muscovado/muscovadolaw04.CharBuy", spec := "charBuy", inPlace := ["(*sync.WaitGroup).Add", "internal/race.ReleaseMerge", "internal/race.Disable", "internal/race.Enable", "internal/synctest.IsInBubble", "internal/synctest.Associate[sync.WaitGroup]", "sync.fatal", "sync/atomic.OrUint64", "sync/atomic.AddUint64", "internal/race.Read", "sync/atomic.LoadUint64", "sync/atomic.StoreUint64", "internal/synctest.Disassociate[sync.WaitGroup]", "sync.runtime_Semrelease", "(*sync.WaitGroup).Done", "(*sync.WaitGroup).Wait", "internal/race.Acquire", "internal/synctest.IsAssociated[sync.WaitGroup]", "sync/atomic.CompareAndSwapUint64", "internal/race.Write", "sync.runtime_SemacquireWaitGroup"], unfollowed := true, recurses := true, plainKeys := false, leaving := true, apart := false }
def CharBuySaid : Prop := charBuyRow.holds Try.pinned (OpenSpec.ofChange charBuySpec)

/-- ITS FALSE NEIGHBOUR: 'it returns false'. Refute it at one input. -/
def charBuyWrong : ChangeSpec := { name := "charBuy", fn := fun _ => fun
  | [d] => { results := [.lit (.bool false)], args := [d] }
  | _ => none }
def CharBuyWrongFalsely : Prop := charBuyRow.holds Try.pinned (OpenSpec.ofChange charBuyWrong)

/-- 'muscovadolaw04.CharStronger': WHATEVER THE INPUT: true; the input reads as it did. -/
def charStrongerSpec : ChangeSpec := { name := "charStronger", fn := fun _ => fun
  | [d] => { results := [.lit (.bool true)], args := [d] }
  | _ => none }
def charStrongerRow : OpenClaim := { program := "yteppiphdbondeaa", sum := "d0049b1d6ec464ee60f518836374c8266979116dbbb4086b605b520aa82ae9fc", func := "muscovado/muscovadolaw04.CharStronger", spec := "charStronger", inPlace := ["(*sync.WaitGroup).Add", "internal/race.ReleaseMerge", "internal/race.Disable", "internal/race.Enable", "internal/synctest.IsInBubble", "internal/synctest.Associate[sync.WaitGroup]", "sync.fatal", "sync/atomic.OrUint64", "sync/atomic.AddUint64", "internal/race.Read", "sync/atomic.LoadUint64", "sync/atomic.StoreUint64", "internal/synctest.Disassociate[sync.WaitGroup]", "sync.runtime_Semrelease", "(*sync.WaitGroup).Done", "(*sync.WaitGroup).Wait", "internal/race.Acquire", "internal/synctest.IsAssociated[sync.WaitGroup]", "sync/atomic.CompareAndSwapUint64", "internal/race.Write", "sync.runtime_SemacquireWaitGroup"], unfollowed := true, recurses := true, plainKeys := false, leaving := true, apart := false }
def CharStrongerSaid : Prop := charStrongerRow.holds Try.pinned (OpenSpec.ofChange charStrongerSpec)

/-- ITS FALSE NEIGHBOUR: 'it returns false'. Refute it at one input. -/
def charStrongerWrong : ChangeSpec := { name := "charStronger", fn := fun _ => fun
  | [d] => { results := [.lit (.bool false)], args := [d] }
  | _ => none }
def CharStrongerWrongFalsely : Prop := charStrongerRow.holds Try.pinned (OpenSpec.ofChange charStrongerWrong)

/-- 'muscovadolaw04.CharCleared': WHATEVER THE INPUT: true; the input reads as it did. -/
def charClearedSpec : ChangeSpec := { name := "charCleared", fn := fun _ => fun
  | [d] => { results := [.lit (.bool true)], args := [d] }
  | _ => none }
def charClearedRow : OpenClaim := { program := "yteppiphdbondeaa", sum := "d0049b1d6ec464ee60f518836374c8266979116dbbb4086b605b520aa82ae9fc", func := "muscovado/muscovadolaw04.CharCleared", spec := "charCleared", inPlace := ["(*sync.WaitGroup).Add", "internal/race.ReleaseMerge", "internal/race.Disable", "internal/race.Enable", "internal/synctest.IsInBubble", "internal/synctest.Associate[sync.WaitGroup]", "sync.fatal", "sync/atomic.OrUint64", "sync/atomic.AddUint64", "internal/race.Read", "sync/atomic.LoadUint64", "sync/atomic.StoreUint64", "internal/synctest.Disassociate[sync.WaitGroup]", "sync.runtime_Semrelease", "(*sync.WaitGroup).Done", "(*sync.WaitGroup).Wait", "internal/race.Acquire", "internal/synctest.IsAssociated[sync.WaitGroup]", "sync/atomic.CompareAndSwapUint64", "internal/race.Write", "sync.runtime_SemacquireWaitGroup"], unfollowed := true, recurses := true, plainKeys := false, leaving := true, apart := false }
def CharClearedSaid : Prop := charClearedRow.holds Try.pinned (OpenSpec.ofChange charClearedSpec)

/-- ITS FALSE NEIGHBOUR: 'it returns false'. Refute it at one input. -/
def charClearedWrong : ChangeSpec := { name := "charCleared", fn := fun _ => fun
  | [d] => { results := [.lit (.bool false)], args := [d] }
  | _ => none }
def CharClearedWrongFalsely : Prop := charClearedRow.holds Try.pinned (OpenSpec.ofChange charClearedWrong)

/-- 'muscovadolaw04.CharAgain': WHATEVER THE INPUT: true; the input reads as it did. -/
def charAgainSpec : ChangeSpec := { name := "charAgain", fn := fun _ => fun
  | [d] => { results := [.lit (.bool true)], args := [d] }
  | _ => none }
def charAgainRow : OpenClaim := { program := "yteppiphdbondeaa", sum := "d0049b1d6ec464ee60f518836374c8266979116dbbb4086b605b520aa82ae9fc", func := "muscovado/muscovadolaw04.CharAgain", spec := "charAgain", inPlace := ["(*sync.WaitGroup).Add", "internal/race.ReleaseMerge", "internal/race.Disable", "internal/race.Enable", "internal/synctest.IsInBubble", "internal/synctest.Associate[sync.WaitGroup]", "sync.fatal", "sync/atomic.OrUint64", "sync/atomic.AddUint64", "internal/race.Read", "sync/atomic.LoadUint64", "sync/atomic.StoreUint64", "internal/synctest.Disassociate[sync.WaitGroup]", "sync.runtime_Semrelease", "(*sync.WaitGroup).Done", "(*sync.WaitGroup).Wait", "internal/race.Acquire", "internal/synctest.IsAssociated[sync.WaitGroup]", "sync/atomic.CompareAndSwapUint64", "internal/race.Write", "sync.runtime_SemacquireWaitGroup"], unfollowed := true, recurses := true, plainKeys := false, leaving := true, apart := false }
def CharAgainSaid : Prop := charAgainRow.holds Try.pinned (OpenSpec.ofChange charAgainSpec)

/-- ITS FALSE NEIGHBOUR: 'it returns false'. Refute it at one input. -/
def charAgainWrong : ChangeSpec := { name := "charAgain", fn := fun _ => fun
  | [d] => { results := [.lit (.bool false)], args := [d] }
  | _ => none }
def CharAgainWrongFalsely : Prop := charAgainRow.holds Try.pinned (OpenSpec.ofChange charAgainWrong)

/-- 'muscovadolaw04.CharNeeded': WHATEVER THE INPUT: true; the input reads as it did. -/
def charNeededSpec : ChangeSpec := { name := "charNeeded", fn := fun _ => fun
  | [d] => { results := [.lit (.bool true)], args := [d] }
  | _ => none }
def charNeededRow : OpenClaim := { program := "yteppiphdbondeaa", sum := "d0049b1d6ec464ee60f518836374c8266979116dbbb4086b605b520aa82ae9fc", func := "muscovado/muscovadolaw04.CharNeeded", spec := "charNeeded", inPlace := ["(*sync.WaitGroup).Add", "internal/race.ReleaseMerge", "internal/race.Disable", "internal/race.Enable", "internal/synctest.IsInBubble", "internal/synctest.Associate[sync.WaitGroup]", "sync.fatal", "sync/atomic.OrUint64", "sync/atomic.AddUint64", "internal/race.Read", "sync/atomic.LoadUint64", "sync/atomic.StoreUint64", "internal/synctest.Disassociate[sync.WaitGroup]", "sync.runtime_Semrelease", "(*sync.WaitGroup).Done", "(*sync.WaitGroup).Wait", "internal/race.Acquire", "internal/synctest.IsAssociated[sync.WaitGroup]", "sync/atomic.CompareAndSwapUint64", "internal/race.Write", "sync.runtime_SemacquireWaitGroup"], unfollowed := true, recurses := true, plainKeys := false, leaving := true, apart := false }
def CharNeededSaid : Prop := charNeededRow.holds Try.pinned (OpenSpec.ofChange charNeededSpec)

/-- ITS FALSE NEIGHBOUR: 'it returns false'. Refute it at one input. -/
def charNeededWrong : ChangeSpec := { name := "charNeeded", fn := fun _ => fun
  | [d] => { results := [.lit (.bool false)], args := [d] }
  | _ => none }
def CharNeededWrongFalsely : Prop := charNeededRow.holds Try.pinned (OpenSpec.ofChange charNeededWrong)

/-- 'muscovadolaw04.CharLeft': WHATEVER THE INPUT: true; the input reads as it did. -/
def charLeftSpec : ChangeSpec := { name := "charLeft", fn := fun _ => fun
  | [d] => { results := [.lit (.bool true)], args := [d] }
  | _ => none }
def charLeftRow : OpenClaim := { program := "yteppiphdbondeaa", sum := "d0049b1d6ec464ee60f518836374c8266979116dbbb4086b605b520aa82ae9fc", func := "muscovado/muscovadolaw04.CharLeft", spec := "charLeft", inPlace := ["(*sync.WaitGroup).Add", "internal/race.ReleaseMerge", "internal/race.Disable", "internal/race.Enable", "internal/synctest.IsInBubble", "internal/synctest.Associate[sync.WaitGroup]", "sync.fatal", "sync/atomic.OrUint64", "sync/atomic.AddUint64", "internal/race.Read", "sync/atomic.LoadUint64", "sync/atomic.StoreUint64", "internal/synctest.Disassociate[sync.WaitGroup]", "sync.runtime_Semrelease", "(*sync.WaitGroup).Done", "(*sync.WaitGroup).Wait", "internal/race.Acquire", "internal/synctest.IsAssociated[sync.WaitGroup]", "sync/atomic.CompareAndSwapUint64", "internal/race.Write", "sync.runtime_SemacquireWaitGroup"], unfollowed := true, recurses := true, plainKeys := false, leaving := true, apart := false }
def CharLeftSaid : Prop := charLeftRow.holds Try.pinned (OpenSpec.ofChange charLeftSpec)

/-- ITS FALSE NEIGHBOUR: 'it returns false'. Refute it at one input. -/
def charLeftWrong : ChangeSpec := { name := "charLeft", fn := fun _ => fun
  | [d] => { results := [.lit (.bool false)], args := [d] }
  | _ => none }
def CharLeftWrongFalsely : Prop := charLeftRow.holds Try.pinned (OpenSpec.ofChange charLeftWrong)

/-- 'muscovadolaw04.CharMost': WHATEVER THE INPUT: true; the input reads as it did. -/
def charMostSpec : ChangeSpec := { name := "charMost", fn := fun _ => fun
  | [d] => { results := [.lit (.bool true)], args := [d] }
  | _ => none }
def charMostRow : OpenClaim := { program := "yteppiphdbondeaa", sum := "d0049b1d6ec464ee60f518836374c8266979116dbbb4086b605b520aa82ae9fc", func := "muscovado/muscovadolaw04.CharMost", spec := "charMost", inPlace := ["(*sync.WaitGroup).Add", "internal/race.ReleaseMerge", "internal/race.Disable", "internal/race.Enable", "internal/synctest.IsInBubble", "internal/synctest.Associate[sync.WaitGroup]", "sync.fatal", "sync/atomic.OrUint64", "sync/atomic.AddUint64", "internal/race.Read", "sync/atomic.LoadUint64", "sync/atomic.StoreUint64", "internal/synctest.Disassociate[sync.WaitGroup]", "sync.runtime_Semrelease", "(*sync.WaitGroup).Done", "(*sync.WaitGroup).Wait", "internal/race.Acquire", "internal/synctest.IsAssociated[sync.WaitGroup]", "sync/atomic.CompareAndSwapUint64", "internal/race.Write", "sync.runtime_SemacquireWaitGroup"], unfollowed := true, recurses := true, plainKeys := false, leaving := true, apart := false }
def CharMostSaid : Prop := charMostRow.holds Try.pinned (OpenSpec.ofChange charMostSpec)

/-- ITS FALSE NEIGHBOUR: 'it returns false'. Refute it at one input. -/
def charMostWrong : ChangeSpec := { name := "charMost", fn := fun _ => fun
  | [d] => { results := [.lit (.bool false)], args := [d] }
  | _ => none }
def CharMostWrongFalsely : Prop := charMostRow.holds Try.pinned (OpenSpec.ofChange charMostWrong)

/-- 'muscovadolaw04.CharKnown': WHATEVER THE INPUT: true; the input reads as it did. -/
def charKnownSpec : ChangeSpec := { name := "charKnown", fn := fun _ => fun
  | [] => { results := [.lit (.bool true)], args := [] }
  | _ => none }
def charKnownRow : OpenClaim := { program := "yteppiphdbondeaa", sum := "d0049b1d6ec464ee60f518836374c8266979116dbbb4086b605b520aa82ae9fc", func := "muscovado/muscovadolaw04.CharKnown", spec := "charKnown", inPlace := ["(*sync.WaitGroup).Add", "internal/race.ReleaseMerge", "internal/race.Disable", "internal/race.Enable", "internal/synctest.IsInBubble", "internal/synctest.Associate[sync.WaitGroup]", "sync.fatal", "sync/atomic.OrUint64", "sync/atomic.AddUint64", "internal/race.Read", "sync/atomic.LoadUint64", "sync/atomic.StoreUint64", "internal/synctest.Disassociate[sync.WaitGroup]", "sync.runtime_Semrelease", "(*sync.WaitGroup).Done", "(*sync.WaitGroup).Wait", "internal/race.Acquire", "internal/synctest.IsAssociated[sync.WaitGroup]", "sync/atomic.CompareAndSwapUint64", "internal/race.Write", "sync.runtime_SemacquireWaitGroup"], unfollowed := true, recurses := true, plainKeys := false, leaving := true, apart := false }
def CharKnownSaid : Prop := charKnownRow.holds Try.pinned (OpenSpec.ofChange charKnownSpec)

/-- ITS FALSE NEIGHBOUR: 'it returns false'. Refute it at one input. -/
def charKnownWrong : ChangeSpec := { name := "charKnown", fn := fun _ => fun
  | [] => { results := [.lit (.bool false)], args := [] }
  | _ => none }
def CharKnownWrongFalsely : Prop := charKnownRow.holds Try.pinned (OpenSpec.ofChange charKnownWrong)

/- THE SECOND FORM. 'bulk': how many values and letters a reading holds, each counted each time it is reached (what is shared counts as often as it is met; a slice's spare places count too). A statement '..UptoSaid' is the law's where the arguments, and the package variables that the reading takes, are together of bulk at most 1048576: NARROWER than '..Said'. Prove '..Said' where nothing that the law and all that it calls make is longer than what came in: it says more and counts as full. Else prove '..UptoSaid'. A law counts once. -/
mutual
def uptoBulk {H : Type} : DataW H → Nat
  | .lit (.string bytes) => bytes.length + 1
  | .lit _ => 1
  | .nil => 1
  | .ptr d => uptoBulk d + 1
  | .slice elems spare => uptoBulkAll elems + uptoBulkAll spare + 1
  | .agg parts => uptoBulkAll parts + 1
  | .iface _ d => uptoBulk d + 1
  | .map entries => uptoBulkEntries entries + 1
  | .held _ => 1
def uptoBulkAll {H : Type} : List (DataW H) → Nat
  | [] => 0
  | d :: r => uptoBulk d + uptoBulkAll r
def uptoBulkEntries {H : Type} : List (Lit × DataW H) → Nat
  | [] => 0
  | x :: r => uptoBulkEntry x + uptoBulkEntries r
def uptoBulkEntry {H : Type} : Lit × DataW H → Nat
  | (.string bytes, d) => bytes.length + uptoBulk d + 1
  | (_, d) => uptoBulk d + 1
 end
def uptoSmall : (H : Type) → List (DataW H) → Bool := fun _ ds => decide (uptoBulkAll ds ≤ 1048576)
def OpenSpec.upto (s : _root_.Go.ChangeSpec) : _root_.Go.OpenSpec := { _root_.Go.OpenSpec.ofChange s with cond := some uptoSmall }

/-- 'muscovadolaw04.CharFewest', WHERE WHAT IT READS IS OF BULK AT MOST 1048576: true; the input reads as it did. -/
def charFewestUptoRow : OpenClaim := { program := "yteppiphdbondeaa", sum := "d0049b1d6ec464ee60f518836374c8266979116dbbb4086b605b520aa82ae9fc", func := "muscovado/muscovadolaw04.CharFewest", spec := "charFewest", inPlace := ["(*sync.WaitGroup).Add", "internal/race.ReleaseMerge", "internal/race.Disable", "internal/race.Enable", "internal/synctest.IsInBubble", "internal/synctest.Associate[sync.WaitGroup]", "sync.fatal", "sync/atomic.OrUint64", "sync/atomic.AddUint64", "internal/race.Read", "sync/atomic.LoadUint64", "sync/atomic.StoreUint64", "internal/synctest.Disassociate[sync.WaitGroup]", "sync.runtime_Semrelease", "(*sync.WaitGroup).Done", "(*sync.WaitGroup).Wait", "internal/race.Acquire", "internal/synctest.IsAssociated[sync.WaitGroup]", "sync/atomic.CompareAndSwapUint64", "internal/race.Write", "sync.runtime_SemacquireWaitGroup"], unfollowed := true, recurses := true, plainKeys := false, leaving := true, apart := false, narrowed := true }
def CharFewestUptoSaid : Prop := charFewestUptoRow.holds Try.pinned (OpenSpec.upto charFewestSpec)

/-- 'muscovadolaw04.CharFirst', WHERE WHAT IT READS IS OF BULK AT MOST 1048576: true; the input reads as it did. -/
def charFirstUptoRow : OpenClaim := { program := "yteppiphdbondeaa", sum := "d0049b1d6ec464ee60f518836374c8266979116dbbb4086b605b520aa82ae9fc", func := "muscovado/muscovadolaw04.CharFirst", spec := "charFirst", inPlace := ["(*sync.WaitGroup).Add", "internal/race.ReleaseMerge", "internal/race.Disable", "internal/race.Enable", "internal/synctest.IsInBubble", "internal/synctest.Associate[sync.WaitGroup]", "sync.fatal", "sync/atomic.OrUint64", "sync/atomic.AddUint64", "internal/race.Read", "sync/atomic.LoadUint64", "sync/atomic.StoreUint64", "internal/synctest.Disassociate[sync.WaitGroup]", "sync.runtime_Semrelease", "(*sync.WaitGroup).Done", "(*sync.WaitGroup).Wait", "internal/race.Acquire", "internal/synctest.IsAssociated[sync.WaitGroup]", "sync/atomic.CompareAndSwapUint64", "internal/race.Write", "sync.runtime_SemacquireWaitGroup"], unfollowed := true, recurses := true, plainKeys := false, leaving := true, apart := false, narrowed := true }
def CharFirstUptoSaid : Prop := charFirstUptoRow.holds Try.pinned (OpenSpec.upto charFirstSpec)

/-- 'muscovadolaw04.CharBuy', WHERE WHAT IT READS IS OF BULK AT MOST 1048576: true; the input reads as it did. -/
def charBuyUptoRow : OpenClaim := { program := "yteppiphdbondeaa", sum := "d0049b1d6ec464ee60f518836374c8266979116dbbb4086b605b520aa82ae9fc", func := "muscovado/muscovadolaw04.CharBuy", spec := "charBuy", inPlace := ["(*sync.WaitGroup).Add", "internal/race.ReleaseMerge", "internal/race.Disable", "internal/race.Enable", "internal/synctest.IsInBubble", "internal/synctest.Associate[sync.WaitGroup]", "sync.fatal", "sync/atomic.OrUint64", "sync/atomic.AddUint64", "internal/race.Read", "sync/atomic.LoadUint64", "sync/atomic.StoreUint64", "internal/synctest.Disassociate[sync.WaitGroup]", "sync.runtime_Semrelease", "(*sync.WaitGroup).Done", "(*sync.WaitGroup).Wait", "internal/race.Acquire", "internal/synctest.IsAssociated[sync.WaitGroup]", "sync/atomic.CompareAndSwapUint64", "internal/race.Write", "sync.runtime_SemacquireWaitGroup"], unfollowed := true, recurses := true, plainKeys := false, leaving := true, apart := false, narrowed := true }
def CharBuyUptoSaid : Prop := charBuyUptoRow.holds Try.pinned (OpenSpec.upto charBuySpec)

/-- 'muscovadolaw04.CharStronger', WHERE WHAT IT READS IS OF BULK AT MOST 1048576: true; the input reads as it did. -/
def charStrongerUptoRow : OpenClaim := { program := "yteppiphdbondeaa", sum := "d0049b1d6ec464ee60f518836374c8266979116dbbb4086b605b520aa82ae9fc", func := "muscovado/muscovadolaw04.CharStronger", spec := "charStronger", inPlace := ["(*sync.WaitGroup).Add", "internal/race.ReleaseMerge", "internal/race.Disable", "internal/race.Enable", "internal/synctest.IsInBubble", "internal/synctest.Associate[sync.WaitGroup]", "sync.fatal", "sync/atomic.OrUint64", "sync/atomic.AddUint64", "internal/race.Read", "sync/atomic.LoadUint64", "sync/atomic.StoreUint64", "internal/synctest.Disassociate[sync.WaitGroup]", "sync.runtime_Semrelease", "(*sync.WaitGroup).Done", "(*sync.WaitGroup).Wait", "internal/race.Acquire", "internal/synctest.IsAssociated[sync.WaitGroup]", "sync/atomic.CompareAndSwapUint64", "internal/race.Write", "sync.runtime_SemacquireWaitGroup"], unfollowed := true, recurses := true, plainKeys := false, leaving := true, apart := false, narrowed := true }
def CharStrongerUptoSaid : Prop := charStrongerUptoRow.holds Try.pinned (OpenSpec.upto charStrongerSpec)

/-- 'muscovadolaw04.CharCleared', WHERE WHAT IT READS IS OF BULK AT MOST 1048576: true; the input reads as it did. -/
def charClearedUptoRow : OpenClaim := { program := "yteppiphdbondeaa", sum := "d0049b1d6ec464ee60f518836374c8266979116dbbb4086b605b520aa82ae9fc", func := "muscovado/muscovadolaw04.CharCleared", spec := "charCleared", inPlace := ["(*sync.WaitGroup).Add", "internal/race.ReleaseMerge", "internal/race.Disable", "internal/race.Enable", "internal/synctest.IsInBubble", "internal/synctest.Associate[sync.WaitGroup]", "sync.fatal", "sync/atomic.OrUint64", "sync/atomic.AddUint64", "internal/race.Read", "sync/atomic.LoadUint64", "sync/atomic.StoreUint64", "internal/synctest.Disassociate[sync.WaitGroup]", "sync.runtime_Semrelease", "(*sync.WaitGroup).Done", "(*sync.WaitGroup).Wait", "internal/race.Acquire", "internal/synctest.IsAssociated[sync.WaitGroup]", "sync/atomic.CompareAndSwapUint64", "internal/race.Write", "sync.runtime_SemacquireWaitGroup"], unfollowed := true, recurses := true, plainKeys := false, leaving := true, apart := false, narrowed := true }
def CharClearedUptoSaid : Prop := charClearedUptoRow.holds Try.pinned (OpenSpec.upto charClearedSpec)

/-- 'muscovadolaw04.CharAgain', WHERE WHAT IT READS IS OF BULK AT MOST 1048576: true; the input reads as it did. -/
def charAgainUptoRow : OpenClaim := { program := "yteppiphdbondeaa", sum := "d0049b1d6ec464ee60f518836374c8266979116dbbb4086b605b520aa82ae9fc", func := "muscovado/muscovadolaw04.CharAgain", spec := "charAgain", inPlace := ["(*sync.WaitGroup).Add", "internal/race.ReleaseMerge", "internal/race.Disable", "internal/race.Enable", "internal/synctest.IsInBubble", "internal/synctest.Associate[sync.WaitGroup]", "sync.fatal", "sync/atomic.OrUint64", "sync/atomic.AddUint64", "internal/race.Read", "sync/atomic.LoadUint64", "sync/atomic.StoreUint64", "internal/synctest.Disassociate[sync.WaitGroup]", "sync.runtime_Semrelease", "(*sync.WaitGroup).Done", "(*sync.WaitGroup).Wait", "internal/race.Acquire", "internal/synctest.IsAssociated[sync.WaitGroup]", "sync/atomic.CompareAndSwapUint64", "internal/race.Write", "sync.runtime_SemacquireWaitGroup"], unfollowed := true, recurses := true, plainKeys := false, leaving := true, apart := false, narrowed := true }
def CharAgainUptoSaid : Prop := charAgainUptoRow.holds Try.pinned (OpenSpec.upto charAgainSpec)

/-- 'muscovadolaw04.CharNeeded', WHERE WHAT IT READS IS OF BULK AT MOST 1048576: true; the input reads as it did. -/
def charNeededUptoRow : OpenClaim := { program := "yteppiphdbondeaa", sum := "d0049b1d6ec464ee60f518836374c8266979116dbbb4086b605b520aa82ae9fc", func := "muscovado/muscovadolaw04.CharNeeded", spec := "charNeeded", inPlace := ["(*sync.WaitGroup).Add", "internal/race.ReleaseMerge", "internal/race.Disable", "internal/race.Enable", "internal/synctest.IsInBubble", "internal/synctest.Associate[sync.WaitGroup]", "sync.fatal", "sync/atomic.OrUint64", "sync/atomic.AddUint64", "internal/race.Read", "sync/atomic.LoadUint64", "sync/atomic.StoreUint64", "internal/synctest.Disassociate[sync.WaitGroup]", "sync.runtime_Semrelease", "(*sync.WaitGroup).Done", "(*sync.WaitGroup).Wait", "internal/race.Acquire", "internal/synctest.IsAssociated[sync.WaitGroup]", "sync/atomic.CompareAndSwapUint64", "internal/race.Write", "sync.runtime_SemacquireWaitGroup"], unfollowed := true, recurses := true, plainKeys := false, leaving := true, apart := false, narrowed := true }
def CharNeededUptoSaid : Prop := charNeededUptoRow.holds Try.pinned (OpenSpec.upto charNeededSpec)

/-- 'muscovadolaw04.CharLeft', WHERE WHAT IT READS IS OF BULK AT MOST 1048576: true; the input reads as it did. -/
def charLeftUptoRow : OpenClaim := { program := "yteppiphdbondeaa", sum := "d0049b1d6ec464ee60f518836374c8266979116dbbb4086b605b520aa82ae9fc", func := "muscovado/muscovadolaw04.CharLeft", spec := "charLeft", inPlace := ["(*sync.WaitGroup).Add", "internal/race.ReleaseMerge", "internal/race.Disable", "internal/race.Enable", "internal/synctest.IsInBubble", "internal/synctest.Associate[sync.WaitGroup]", "sync.fatal", "sync/atomic.OrUint64", "sync/atomic.AddUint64", "internal/race.Read", "sync/atomic.LoadUint64", "sync/atomic.StoreUint64", "internal/synctest.Disassociate[sync.WaitGroup]", "sync.runtime_Semrelease", "(*sync.WaitGroup).Done", "(*sync.WaitGroup).Wait", "internal/race.Acquire", "internal/synctest.IsAssociated[sync.WaitGroup]", "sync/atomic.CompareAndSwapUint64", "internal/race.Write", "sync.runtime_SemacquireWaitGroup"], unfollowed := true, recurses := true, plainKeys := false, leaving := true, apart := false, narrowed := true }
def CharLeftUptoSaid : Prop := charLeftUptoRow.holds Try.pinned (OpenSpec.upto charLeftSpec)

/-- 'muscovadolaw04.CharMost', WHERE WHAT IT READS IS OF BULK AT MOST 1048576: true; the input reads as it did. -/
def charMostUptoRow : OpenClaim := { program := "yteppiphdbondeaa", sum := "d0049b1d6ec464ee60f518836374c8266979116dbbb4086b605b520aa82ae9fc", func := "muscovado/muscovadolaw04.CharMost", spec := "charMost", inPlace := ["(*sync.WaitGroup).Add", "internal/race.ReleaseMerge", "internal/race.Disable", "internal/race.Enable", "internal/synctest.IsInBubble", "internal/synctest.Associate[sync.WaitGroup]", "sync.fatal", "sync/atomic.OrUint64", "sync/atomic.AddUint64", "internal/race.Read", "sync/atomic.LoadUint64", "sync/atomic.StoreUint64", "internal/synctest.Disassociate[sync.WaitGroup]", "sync.runtime_Semrelease", "(*sync.WaitGroup).Done", "(*sync.WaitGroup).Wait", "internal/race.Acquire", "internal/synctest.IsAssociated[sync.WaitGroup]", "sync/atomic.CompareAndSwapUint64", "internal/race.Write", "sync.runtime_SemacquireWaitGroup"], unfollowed := true, recurses := true, plainKeys := false, leaving := true, apart := false, narrowed := true }
def CharMostUptoSaid : Prop := charMostUptoRow.holds Try.pinned (OpenSpec.upto charMostSpec)

/-- 'muscovadolaw04.CharKnown', WHERE WHAT IT READS IS OF BULK AT MOST 1048576: true; the input reads as it did. -/
def charKnownUptoRow : OpenClaim := { program := "yteppiphdbondeaa", sum := "d0049b1d6ec464ee60f518836374c8266979116dbbb4086b605b520aa82ae9fc", func := "muscovado/muscovadolaw04.CharKnown", spec := "charKnown", inPlace := ["(*sync.WaitGroup).Add", "internal/race.ReleaseMerge", "internal/race.Disable", "internal/race.Enable", "internal/synctest.IsInBubble", "internal/synctest.Associate[sync.WaitGroup]", "sync.fatal", "sync/atomic.OrUint64", "sync/atomic.AddUint64", "internal/race.Read", "sync/atomic.LoadUint64", "sync/atomic.StoreUint64", "internal/synctest.Disassociate[sync.WaitGroup]", "sync.runtime_Semrelease", "(*sync.WaitGroup).Done", "(*sync.WaitGroup).Wait", "internal/race.Acquire", "internal/synctest.IsAssociated[sync.WaitGroup]", "sync/atomic.CompareAndSwapUint64", "internal/race.Write", "sync.runtime_SemacquireWaitGroup"], unfollowed := true, recurses := true, plainKeys := false, leaving := true, apart := false, narrowed := true }
def CharKnownUptoSaid : Prop := charKnownUptoRow.holds Try.pinned (OpenSpec.upto charKnownSpec)

end Rows
end Go.Proofs.Yteppiphdbondeaa
