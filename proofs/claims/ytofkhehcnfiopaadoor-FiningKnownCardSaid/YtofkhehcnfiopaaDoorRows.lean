/-
  NARROWER THAN 'FOR EVERY INPUT', by the rows' own cells (each row's printed sentence says how): FiningBoths: laid · FiningCheapest: laid · FiningBoth: laid · FiningTells: laid · FiningPut: laid · FiningPuts: laid · FiningMore: laid · FiningNumbered: laid · FiningNeeds: laid · FiningNeeded: laid · FiningWays: laid · FiningReach: laid · FiningShortest: laid · FiningHopeless: laid · FiningFaults: laid · FiningHopes: laid · FiningFewest: laid · FiningKnown: laid.
  DERIVED. THE GIVEN ROWS OF THIS SEAT. 18 by the template 'for every input the law returns true; each argument reads behind the call as it read before'; 0 by the template 'total and deterministic' (their statements: YtofkhehcnfiopaaDoorTotals.lean).
  GIVEN WITH THE SEED: the statements are not yours to turn. If you find one false, say at which input.
  Laid BY PROGRAM, IN A SANDBOX (cutbox-rows.mjs): the forced cells as the released guide's own fill.sh prints them over the translation a2488c0c3da49586… (all of the seat's roots in one cut). By AI agents, Wed Nov 11 2026. No macro, syntax, notation, axiom, sorry.
-/
import Derived.Test.YtofkhehcnfiopaaDoorChecked
import GoSem.Claim
import GoSem.ClaimJoined
import GoSem.ClaimMapViews
import Derived.JoinedTies
import Derived.KernelRfl
namespace Go.Proofs.YtofkhehcnfiopaaDoor
/- THE CELL 'sum', in the pinned program and in every row, IS THE sha256 OF THE DUMP (.gsa) THAT YtofkhehcnfiopaaDoorProg.lean LOADS. Nothing in Lean hashes anything: it is a label: what it is worth is what the hold of that sum in a sandbox is worth. -/
noncomputable def Tryd.pinned : Pinned := { name := "ytofkhehcnfiopaadoor", sum := "a2488c0c3da4958638ed736ceb581c05b926b9c18e76cafed30a46917dafef1e", checked := Tryd.checked }
namespace Rows
def none {H : Type} : Left H := { results := [], args := [] }

/- WHAT THE LISTED PACKAGE-LEVEL VARIABLES READ AS WHEN THE CALL BEGINS. Each datum BY PROGRAM (the guide's laid-datum.mjs) off the statement by which the dump's own 'gosem.cut.vars' lays the variable. In a bare row this is a premise. The card (YtofkhehcnfiopaaDoorCards.lean) ties it to the program's text. -/
def laid_errors_errorType {H : Type} : DataW H := .iface "internal/reflectlite.rtype" (.agg [.ptr (.lit (.string [101, 114, 114, 111, 114]))])

/-- 'muscovadolaw09.FiningBoths': WHATEVER THE INPUT: true; the input reads as it did. -/
def finingBothsSpec : ChangeSpec := { name := "finingBoths", fn := fun _ => fun
  | [d1, d2, d3, d4, d5, d6, d7] => { results := [.lit (.bool true)], args := [d1, d2, d3, d4, d5, d6, d7] }
  | _ => none }
def finingBothsRow : OpenClaim := { program := "ytofkhehcnfiopaadoor", sum := "a2488c0c3da4958638ed736ceb581c05b926b9c18e76cafed30a46917dafef1e", func := "muscovado/muscovadolaw09.FiningBoths", spec := "finingBoths", inPlace := ["internal/reflectlite.ValueOf", "(internal/reflectlite.Value).Type", "(internal/reflectlite.Value).IsNil", "internal/reflectlite.TypeOf", "(internal/reflectlite.Value).Elem", "(internal/reflectlite.Value).Set"], unfollowed := true, recurses := true, named := ["errors.errorType"], plainKeys := false, leaving := true, apart := false, laid := [("errors.errorType", laid_errors_errorType)] }
def FiningBothsSaid : Prop := finingBothsRow.holds Tryd.pinned (OpenSpec.ofChange finingBothsSpec)

/-- ITS FALSE NEIGHBOUR: 'it returns false'. Refute it at one input. -/
def finingBothsWrong : ChangeSpec := { name := "finingBoths", fn := fun _ => fun
  | [d1, d2, d3, d4, d5, d6, d7] => { results := [.lit (.bool false)], args := [d1, d2, d3, d4, d5, d6, d7] }
  | _ => none }
def FiningBothsWrongFalsely : Prop := finingBothsRow.holds Tryd.pinned (OpenSpec.ofChange finingBothsWrong)

/-- 'muscovadolaw09.FiningCheapest': WHATEVER THE INPUT: true; the input reads as it did. -/
def finingCheapestSpec : ChangeSpec := { name := "finingCheapest", fn := fun _ => fun
  | [d] => { results := [.lit (.bool true)], args := [d] }
  | _ => none }
def finingCheapestRow : OpenClaim := { program := "ytofkhehcnfiopaadoor", sum := "a2488c0c3da4958638ed736ceb581c05b926b9c18e76cafed30a46917dafef1e", func := "muscovado/muscovadolaw09.FiningCheapest", spec := "finingCheapest", inPlace := ["internal/reflectlite.ValueOf", "(internal/reflectlite.Value).Type", "(internal/reflectlite.Value).IsNil", "internal/reflectlite.TypeOf", "(internal/reflectlite.Value).Elem", "(internal/reflectlite.Value).Set"], unfollowed := true, recurses := true, named := ["errors.errorType"], plainKeys := false, leaving := true, apart := false, laid := [("errors.errorType", laid_errors_errorType)] }
def FiningCheapestSaid : Prop := finingCheapestRow.holds Tryd.pinned (OpenSpec.ofChange finingCheapestSpec)

/-- ITS FALSE NEIGHBOUR: 'it returns false'. Refute it at one input. -/
def finingCheapestWrong : ChangeSpec := { name := "finingCheapest", fn := fun _ => fun
  | [d] => { results := [.lit (.bool false)], args := [d] }
  | _ => none }
def FiningCheapestWrongFalsely : Prop := finingCheapestRow.holds Tryd.pinned (OpenSpec.ofChange finingCheapestWrong)

/-- 'muscovadolaw09.FiningBoth': WHATEVER THE INPUT: true; the input reads as it did. -/
def finingBothSpec : ChangeSpec := { name := "finingBoth", fn := fun _ => fun
  | [d] => { results := [.lit (.bool true)], args := [d] }
  | _ => none }
def finingBothRow : OpenClaim := { program := "ytofkhehcnfiopaadoor", sum := "a2488c0c3da4958638ed736ceb581c05b926b9c18e76cafed30a46917dafef1e", func := "muscovado/muscovadolaw09.FiningBoth", spec := "finingBoth", inPlace := ["internal/reflectlite.ValueOf", "(internal/reflectlite.Value).Type", "(internal/reflectlite.Value).IsNil", "internal/reflectlite.TypeOf", "(internal/reflectlite.Value).Elem", "(internal/reflectlite.Value).Set"], unfollowed := true, recurses := true, named := ["errors.errorType"], plainKeys := false, leaving := true, apart := false, laid := [("errors.errorType", laid_errors_errorType)] }
def FiningBothSaid : Prop := finingBothRow.holds Tryd.pinned (OpenSpec.ofChange finingBothSpec)

/-- ITS FALSE NEIGHBOUR: 'it returns false'. Refute it at one input. -/
def finingBothWrong : ChangeSpec := { name := "finingBoth", fn := fun _ => fun
  | [d] => { results := [.lit (.bool false)], args := [d] }
  | _ => none }
def FiningBothWrongFalsely : Prop := finingBothRow.holds Tryd.pinned (OpenSpec.ofChange finingBothWrong)

/-- 'muscovadolaw09.FiningTells': WHATEVER THE INPUT: true; the input reads as it did. -/
def finingTellsSpec : ChangeSpec := { name := "finingTells", fn := fun _ => fun
  | [d] => { results := [.lit (.bool true)], args := [d] }
  | _ => none }
def finingTellsRow : OpenClaim := { program := "ytofkhehcnfiopaadoor", sum := "a2488c0c3da4958638ed736ceb581c05b926b9c18e76cafed30a46917dafef1e", func := "muscovado/muscovadolaw09.FiningTells", spec := "finingTells", inPlace := ["internal/reflectlite.ValueOf", "(internal/reflectlite.Value).Type", "(internal/reflectlite.Value).IsNil", "internal/reflectlite.TypeOf", "(internal/reflectlite.Value).Elem", "(internal/reflectlite.Value).Set"], unfollowed := true, recurses := true, named := ["errors.errorType"], plainKeys := false, leaving := true, apart := false, laid := [("errors.errorType", laid_errors_errorType)] }
def FiningTellsSaid : Prop := finingTellsRow.holds Tryd.pinned (OpenSpec.ofChange finingTellsSpec)

/-- ITS FALSE NEIGHBOUR: 'it returns false'. Refute it at one input. -/
def finingTellsWrong : ChangeSpec := { name := "finingTells", fn := fun _ => fun
  | [d] => { results := [.lit (.bool false)], args := [d] }
  | _ => none }
def FiningTellsWrongFalsely : Prop := finingTellsRow.holds Tryd.pinned (OpenSpec.ofChange finingTellsWrong)

/-- 'muscovadolaw09.FiningPut': WHATEVER THE INPUT: true; the input reads as it did. -/
def finingPutSpec : ChangeSpec := { name := "finingPut", fn := fun _ => fun
  | [d] => { results := [.lit (.bool true)], args := [d] }
  | _ => none }
def finingPutRow : OpenClaim := { program := "ytofkhehcnfiopaadoor", sum := "a2488c0c3da4958638ed736ceb581c05b926b9c18e76cafed30a46917dafef1e", func := "muscovado/muscovadolaw09.FiningPut", spec := "finingPut", inPlace := ["internal/reflectlite.ValueOf", "(internal/reflectlite.Value).Type", "(internal/reflectlite.Value).IsNil", "internal/reflectlite.TypeOf", "(internal/reflectlite.Value).Elem", "(internal/reflectlite.Value).Set"], unfollowed := true, recurses := true, named := ["errors.errorType"], plainKeys := false, leaving := true, apart := false, laid := [("errors.errorType", laid_errors_errorType)] }
def FiningPutSaid : Prop := finingPutRow.holds Tryd.pinned (OpenSpec.ofChange finingPutSpec)

/-- ITS FALSE NEIGHBOUR: 'it returns false'. Refute it at one input. -/
def finingPutWrong : ChangeSpec := { name := "finingPut", fn := fun _ => fun
  | [d] => { results := [.lit (.bool false)], args := [d] }
  | _ => none }
def FiningPutWrongFalsely : Prop := finingPutRow.holds Tryd.pinned (OpenSpec.ofChange finingPutWrong)

/-- 'muscovadolaw09.FiningPuts': WHATEVER THE INPUT: true; the input reads as it did. -/
def finingPutsSpec : ChangeSpec := { name := "finingPuts", fn := fun _ => fun
  | [d1, d2, d3, d4, d5] => { results := [.lit (.bool true)], args := [d1, d2, d3, d4, d5] }
  | _ => none }
def finingPutsRow : OpenClaim := { program := "ytofkhehcnfiopaadoor", sum := "a2488c0c3da4958638ed736ceb581c05b926b9c18e76cafed30a46917dafef1e", func := "muscovado/muscovadolaw09.FiningPuts", spec := "finingPuts", inPlace := ["internal/reflectlite.ValueOf", "(internal/reflectlite.Value).Type", "(internal/reflectlite.Value).IsNil", "internal/reflectlite.TypeOf", "(internal/reflectlite.Value).Elem", "(internal/reflectlite.Value).Set"], unfollowed := true, recurses := true, named := ["errors.errorType"], plainKeys := false, leaving := true, apart := false, laid := [("errors.errorType", laid_errors_errorType)] }
def FiningPutsSaid : Prop := finingPutsRow.holds Tryd.pinned (OpenSpec.ofChange finingPutsSpec)

/-- ITS FALSE NEIGHBOUR: 'it returns false'. Refute it at one input. -/
def finingPutsWrong : ChangeSpec := { name := "finingPuts", fn := fun _ => fun
  | [d1, d2, d3, d4, d5] => { results := [.lit (.bool false)], args := [d1, d2, d3, d4, d5] }
  | _ => none }
def FiningPutsWrongFalsely : Prop := finingPutsRow.holds Tryd.pinned (OpenSpec.ofChange finingPutsWrong)

/-- 'muscovadolaw09.FiningMore': WHATEVER THE INPUT: true; the input reads as it did. -/
def finingMoreSpec : ChangeSpec := { name := "finingMore", fn := fun _ => fun
  | [d] => { results := [.lit (.bool true)], args := [d] }
  | _ => none }
def finingMoreRow : OpenClaim := { program := "ytofkhehcnfiopaadoor", sum := "a2488c0c3da4958638ed736ceb581c05b926b9c18e76cafed30a46917dafef1e", func := "muscovado/muscovadolaw09.FiningMore", spec := "finingMore", inPlace := ["internal/reflectlite.ValueOf", "(internal/reflectlite.Value).Type", "(internal/reflectlite.Value).IsNil", "internal/reflectlite.TypeOf", "(internal/reflectlite.Value).Elem", "(internal/reflectlite.Value).Set"], unfollowed := true, recurses := true, named := ["errors.errorType"], plainKeys := false, leaving := true, apart := false, laid := [("errors.errorType", laid_errors_errorType)] }
def FiningMoreSaid : Prop := finingMoreRow.holds Tryd.pinned (OpenSpec.ofChange finingMoreSpec)

/-- ITS FALSE NEIGHBOUR: 'it returns false'. Refute it at one input. -/
def finingMoreWrong : ChangeSpec := { name := "finingMore", fn := fun _ => fun
  | [d] => { results := [.lit (.bool false)], args := [d] }
  | _ => none }
def FiningMoreWrongFalsely : Prop := finingMoreRow.holds Tryd.pinned (OpenSpec.ofChange finingMoreWrong)

/-- 'muscovadolaw09.FiningNumbered': WHATEVER THE INPUT: true; the input reads as it did. -/
def finingNumberedSpec : ChangeSpec := { name := "finingNumbered", fn := fun _ => fun
  | [d] => { results := [.lit (.bool true)], args := [d] }
  | _ => none }
def finingNumberedRow : OpenClaim := { program := "ytofkhehcnfiopaadoor", sum := "a2488c0c3da4958638ed736ceb581c05b926b9c18e76cafed30a46917dafef1e", func := "muscovado/muscovadolaw09.FiningNumbered", spec := "finingNumbered", inPlace := ["internal/reflectlite.ValueOf", "(internal/reflectlite.Value).Type", "(internal/reflectlite.Value).IsNil", "internal/reflectlite.TypeOf", "(internal/reflectlite.Value).Elem", "(internal/reflectlite.Value).Set"], unfollowed := true, recurses := true, named := ["errors.errorType"], plainKeys := false, leaving := true, apart := false, laid := [("errors.errorType", laid_errors_errorType)] }
def FiningNumberedSaid : Prop := finingNumberedRow.holds Tryd.pinned (OpenSpec.ofChange finingNumberedSpec)

/-- ITS FALSE NEIGHBOUR: 'it returns false'. Refute it at one input. -/
def finingNumberedWrong : ChangeSpec := { name := "finingNumbered", fn := fun _ => fun
  | [d] => { results := [.lit (.bool false)], args := [d] }
  | _ => none }
def FiningNumberedWrongFalsely : Prop := finingNumberedRow.holds Tryd.pinned (OpenSpec.ofChange finingNumberedWrong)

/-- 'muscovadolaw09.FiningNeeds': WHATEVER THE INPUT: true; the input reads as it did. -/
def finingNeedsSpec : ChangeSpec := { name := "finingNeeds", fn := fun _ => fun
  | [d1, d2, d3, d4, d5] => { results := [.lit (.bool true)], args := [d1, d2, d3, d4, d5] }
  | _ => none }
def finingNeedsRow : OpenClaim := { program := "ytofkhehcnfiopaadoor", sum := "a2488c0c3da4958638ed736ceb581c05b926b9c18e76cafed30a46917dafef1e", func := "muscovado/muscovadolaw09.FiningNeeds", spec := "finingNeeds", inPlace := ["internal/reflectlite.ValueOf", "(internal/reflectlite.Value).Type", "(internal/reflectlite.Value).IsNil", "internal/reflectlite.TypeOf", "(internal/reflectlite.Value).Elem", "(internal/reflectlite.Value).Set"], unfollowed := true, recurses := true, named := ["errors.errorType"], plainKeys := false, leaving := true, apart := false, laid := [("errors.errorType", laid_errors_errorType)] }
def FiningNeedsSaid : Prop := finingNeedsRow.holds Tryd.pinned (OpenSpec.ofChange finingNeedsSpec)

/-- ITS FALSE NEIGHBOUR: 'it returns false'. Refute it at one input. -/
def finingNeedsWrong : ChangeSpec := { name := "finingNeeds", fn := fun _ => fun
  | [d1, d2, d3, d4, d5] => { results := [.lit (.bool false)], args := [d1, d2, d3, d4, d5] }
  | _ => none }
def FiningNeedsWrongFalsely : Prop := finingNeedsRow.holds Tryd.pinned (OpenSpec.ofChange finingNeedsWrong)

/-- 'muscovadolaw09.FiningNeeded': WHATEVER THE INPUT: true; the input reads as it did. -/
def finingNeededSpec : ChangeSpec := { name := "finingNeeded", fn := fun _ => fun
  | [d] => { results := [.lit (.bool true)], args := [d] }
  | _ => none }
def finingNeededRow : OpenClaim := { program := "ytofkhehcnfiopaadoor", sum := "a2488c0c3da4958638ed736ceb581c05b926b9c18e76cafed30a46917dafef1e", func := "muscovado/muscovadolaw09.FiningNeeded", spec := "finingNeeded", inPlace := ["internal/reflectlite.ValueOf", "(internal/reflectlite.Value).Type", "(internal/reflectlite.Value).IsNil", "internal/reflectlite.TypeOf", "(internal/reflectlite.Value).Elem", "(internal/reflectlite.Value).Set"], unfollowed := true, recurses := true, named := ["errors.errorType"], plainKeys := false, leaving := true, apart := false, laid := [("errors.errorType", laid_errors_errorType)] }
def FiningNeededSaid : Prop := finingNeededRow.holds Tryd.pinned (OpenSpec.ofChange finingNeededSpec)

/-- ITS FALSE NEIGHBOUR: 'it returns false'. Refute it at one input. -/
def finingNeededWrong : ChangeSpec := { name := "finingNeeded", fn := fun _ => fun
  | [d] => { results := [.lit (.bool false)], args := [d] }
  | _ => none }
def FiningNeededWrongFalsely : Prop := finingNeededRow.holds Tryd.pinned (OpenSpec.ofChange finingNeededWrong)

/-- 'muscovadolaw09.FiningWays': WHATEVER THE INPUT: true; the input reads as it did. -/
def finingWaysSpec : ChangeSpec := { name := "finingWays", fn := fun _ => fun
  | [d1, d2, d3, d4, d5] => { results := [.lit (.bool true)], args := [d1, d2, d3, d4, d5] }
  | _ => none }
def finingWaysRow : OpenClaim := { program := "ytofkhehcnfiopaadoor", sum := "a2488c0c3da4958638ed736ceb581c05b926b9c18e76cafed30a46917dafef1e", func := "muscovado/muscovadolaw09.FiningWays", spec := "finingWays", inPlace := ["internal/reflectlite.ValueOf", "(internal/reflectlite.Value).Type", "(internal/reflectlite.Value).IsNil", "internal/reflectlite.TypeOf", "(internal/reflectlite.Value).Elem", "(internal/reflectlite.Value).Set"], unfollowed := true, recurses := true, named := ["errors.errorType"], plainKeys := false, leaving := true, apart := false, laid := [("errors.errorType", laid_errors_errorType)] }
def FiningWaysSaid : Prop := finingWaysRow.holds Tryd.pinned (OpenSpec.ofChange finingWaysSpec)

/-- ITS FALSE NEIGHBOUR: 'it returns false'. Refute it at one input. -/
def finingWaysWrong : ChangeSpec := { name := "finingWays", fn := fun _ => fun
  | [d1, d2, d3, d4, d5] => { results := [.lit (.bool false)], args := [d1, d2, d3, d4, d5] }
  | _ => none }
def FiningWaysWrongFalsely : Prop := finingWaysRow.holds Tryd.pinned (OpenSpec.ofChange finingWaysWrong)

/-- 'muscovadolaw09.FiningReach': WHATEVER THE INPUT: true; the input reads as it did. -/
def finingReachSpec : ChangeSpec := { name := "finingReach", fn := fun _ => fun
  | [d] => { results := [.lit (.bool true)], args := [d] }
  | _ => none }
def finingReachRow : OpenClaim := { program := "ytofkhehcnfiopaadoor", sum := "a2488c0c3da4958638ed736ceb581c05b926b9c18e76cafed30a46917dafef1e", func := "muscovado/muscovadolaw09.FiningReach", spec := "finingReach", inPlace := ["internal/reflectlite.ValueOf", "(internal/reflectlite.Value).Type", "(internal/reflectlite.Value).IsNil", "internal/reflectlite.TypeOf", "(internal/reflectlite.Value).Elem", "(internal/reflectlite.Value).Set"], unfollowed := true, recurses := true, named := ["errors.errorType"], plainKeys := false, leaving := true, apart := false, laid := [("errors.errorType", laid_errors_errorType)] }
def FiningReachSaid : Prop := finingReachRow.holds Tryd.pinned (OpenSpec.ofChange finingReachSpec)

/-- ITS FALSE NEIGHBOUR: 'it returns false'. Refute it at one input. -/
def finingReachWrong : ChangeSpec := { name := "finingReach", fn := fun _ => fun
  | [d] => { results := [.lit (.bool false)], args := [d] }
  | _ => none }
def FiningReachWrongFalsely : Prop := finingReachRow.holds Tryd.pinned (OpenSpec.ofChange finingReachWrong)

/-- 'muscovadolaw09.FiningShortest': WHATEVER THE INPUT: true; the input reads as it did. -/
def finingShortestSpec : ChangeSpec := { name := "finingShortest", fn := fun _ => fun
  | [d] => { results := [.lit (.bool true)], args := [d] }
  | _ => none }
def finingShortestRow : OpenClaim := { program := "ytofkhehcnfiopaadoor", sum := "a2488c0c3da4958638ed736ceb581c05b926b9c18e76cafed30a46917dafef1e", func := "muscovado/muscovadolaw09.FiningShortest", spec := "finingShortest", inPlace := ["internal/reflectlite.ValueOf", "(internal/reflectlite.Value).Type", "(internal/reflectlite.Value).IsNil", "internal/reflectlite.TypeOf", "(internal/reflectlite.Value).Elem", "(internal/reflectlite.Value).Set"], unfollowed := true, recurses := true, named := ["errors.errorType"], plainKeys := false, leaving := true, apart := false, laid := [("errors.errorType", laid_errors_errorType)] }
def FiningShortestSaid : Prop := finingShortestRow.holds Tryd.pinned (OpenSpec.ofChange finingShortestSpec)

/-- ITS FALSE NEIGHBOUR: 'it returns false'. Refute it at one input. -/
def finingShortestWrong : ChangeSpec := { name := "finingShortest", fn := fun _ => fun
  | [d] => { results := [.lit (.bool false)], args := [d] }
  | _ => none }
def FiningShortestWrongFalsely : Prop := finingShortestRow.holds Tryd.pinned (OpenSpec.ofChange finingShortestWrong)

/-- 'muscovadolaw09.FiningHopeless': WHATEVER THE INPUT: true; the input reads as it did. -/
def finingHopelessSpec : ChangeSpec := { name := "finingHopeless", fn := fun _ => fun
  | [d] => { results := [.lit (.bool true)], args := [d] }
  | _ => none }
def finingHopelessRow : OpenClaim := { program := "ytofkhehcnfiopaadoor", sum := "a2488c0c3da4958638ed736ceb581c05b926b9c18e76cafed30a46917dafef1e", func := "muscovado/muscovadolaw09.FiningHopeless", spec := "finingHopeless", inPlace := ["internal/reflectlite.ValueOf", "(internal/reflectlite.Value).Type", "(internal/reflectlite.Value).IsNil", "internal/reflectlite.TypeOf", "(internal/reflectlite.Value).Elem", "(internal/reflectlite.Value).Set"], unfollowed := true, recurses := true, named := ["errors.errorType"], plainKeys := false, leaving := true, apart := false, laid := [("errors.errorType", laid_errors_errorType)] }
def FiningHopelessSaid : Prop := finingHopelessRow.holds Tryd.pinned (OpenSpec.ofChange finingHopelessSpec)

/-- ITS FALSE NEIGHBOUR: 'it returns false'. Refute it at one input. -/
def finingHopelessWrong : ChangeSpec := { name := "finingHopeless", fn := fun _ => fun
  | [d] => { results := [.lit (.bool false)], args := [d] }
  | _ => none }
def FiningHopelessWrongFalsely : Prop := finingHopelessRow.holds Tryd.pinned (OpenSpec.ofChange finingHopelessWrong)

/-- 'muscovadolaw09.FiningFaults': WHATEVER THE INPUT: true; the input reads as it did. -/
def finingFaultsSpec : ChangeSpec := { name := "finingFaults", fn := fun _ => fun
  | [d] => { results := [.lit (.bool true)], args := [d] }
  | _ => none }
def finingFaultsRow : OpenClaim := { program := "ytofkhehcnfiopaadoor", sum := "a2488c0c3da4958638ed736ceb581c05b926b9c18e76cafed30a46917dafef1e", func := "muscovado/muscovadolaw09.FiningFaults", spec := "finingFaults", inPlace := ["internal/reflectlite.ValueOf", "(internal/reflectlite.Value).Type", "(internal/reflectlite.Value).IsNil", "internal/reflectlite.TypeOf", "(internal/reflectlite.Value).Elem", "(internal/reflectlite.Value).Set"], unfollowed := true, recurses := true, named := ["errors.errorType"], plainKeys := false, leaving := true, apart := false, laid := [("errors.errorType", laid_errors_errorType)] }
def FiningFaultsSaid : Prop := finingFaultsRow.holds Tryd.pinned (OpenSpec.ofChange finingFaultsSpec)

/-- ITS FALSE NEIGHBOUR: 'it returns false'. Refute it at one input. -/
def finingFaultsWrong : ChangeSpec := { name := "finingFaults", fn := fun _ => fun
  | [d] => { results := [.lit (.bool false)], args := [d] }
  | _ => none }
def FiningFaultsWrongFalsely : Prop := finingFaultsRow.holds Tryd.pinned (OpenSpec.ofChange finingFaultsWrong)

/-- 'muscovadolaw09.FiningHopes': WHATEVER THE INPUT: true; the input reads as it did. -/
def finingHopesSpec : ChangeSpec := { name := "finingHopes", fn := fun _ => fun
  | [d1, d2, d3, d4] => { results := [.lit (.bool true)], args := [d1, d2, d3, d4] }
  | _ => none }
def finingHopesRow : OpenClaim := { program := "ytofkhehcnfiopaadoor", sum := "a2488c0c3da4958638ed736ceb581c05b926b9c18e76cafed30a46917dafef1e", func := "muscovado/muscovadolaw09.FiningHopes", spec := "finingHopes", inPlace := ["internal/reflectlite.ValueOf", "(internal/reflectlite.Value).Type", "(internal/reflectlite.Value).IsNil", "internal/reflectlite.TypeOf", "(internal/reflectlite.Value).Elem", "(internal/reflectlite.Value).Set"], unfollowed := true, recurses := true, named := ["errors.errorType"], plainKeys := false, leaving := true, apart := false, laid := [("errors.errorType", laid_errors_errorType)] }
def FiningHopesSaid : Prop := finingHopesRow.holds Tryd.pinned (OpenSpec.ofChange finingHopesSpec)

/-- ITS FALSE NEIGHBOUR: 'it returns false'. Refute it at one input. -/
def finingHopesWrong : ChangeSpec := { name := "finingHopes", fn := fun _ => fun
  | [d1, d2, d3, d4] => { results := [.lit (.bool false)], args := [d1, d2, d3, d4] }
  | _ => none }
def FiningHopesWrongFalsely : Prop := finingHopesRow.holds Tryd.pinned (OpenSpec.ofChange finingHopesWrong)

/-- 'muscovadolaw09.FiningFewest': WHATEVER THE INPUT: true; the input reads as it did. -/
def finingFewestSpec : ChangeSpec := { name := "finingFewest", fn := fun _ => fun
  | [d] => { results := [.lit (.bool true)], args := [d] }
  | _ => none }
def finingFewestRow : OpenClaim := { program := "ytofkhehcnfiopaadoor", sum := "a2488c0c3da4958638ed736ceb581c05b926b9c18e76cafed30a46917dafef1e", func := "muscovado/muscovadolaw09.FiningFewest", spec := "finingFewest", inPlace := ["internal/reflectlite.ValueOf", "(internal/reflectlite.Value).Type", "(internal/reflectlite.Value).IsNil", "internal/reflectlite.TypeOf", "(internal/reflectlite.Value).Elem", "(internal/reflectlite.Value).Set"], unfollowed := true, recurses := true, named := ["errors.errorType"], plainKeys := false, leaving := true, apart := false, laid := [("errors.errorType", laid_errors_errorType)] }
def FiningFewestSaid : Prop := finingFewestRow.holds Tryd.pinned (OpenSpec.ofChange finingFewestSpec)

/-- ITS FALSE NEIGHBOUR: 'it returns false'. Refute it at one input. -/
def finingFewestWrong : ChangeSpec := { name := "finingFewest", fn := fun _ => fun
  | [d] => { results := [.lit (.bool false)], args := [d] }
  | _ => none }
def FiningFewestWrongFalsely : Prop := finingFewestRow.holds Tryd.pinned (OpenSpec.ofChange finingFewestWrong)

/-- 'muscovadolaw09.FiningKnown': WHATEVER THE INPUT: true; the input reads as it did. -/
def finingKnownSpec : ChangeSpec := { name := "finingKnown", fn := fun _ => fun
  | [] => { results := [.lit (.bool true)], args := [] }
  | _ => none }
def finingKnownRow : OpenClaim := { program := "ytofkhehcnfiopaadoor", sum := "a2488c0c3da4958638ed736ceb581c05b926b9c18e76cafed30a46917dafef1e", func := "muscovado/muscovadolaw09.FiningKnown", spec := "finingKnown", inPlace := ["internal/reflectlite.ValueOf", "(internal/reflectlite.Value).Type", "(internal/reflectlite.Value).IsNil", "internal/reflectlite.TypeOf", "(internal/reflectlite.Value).Elem", "(internal/reflectlite.Value).Set"], unfollowed := true, recurses := true, named := ["errors.errorType"], plainKeys := false, leaving := true, apart := false, laid := [("errors.errorType", laid_errors_errorType)] }
def FiningKnownSaid : Prop := finingKnownRow.holds Tryd.pinned (OpenSpec.ofChange finingKnownSpec)

/-- ITS FALSE NEIGHBOUR: 'it returns false'. Refute it at one input. -/
def finingKnownWrong : ChangeSpec := { name := "finingKnown", fn := fun _ => fun
  | [] => { results := [.lit (.bool false)], args := [] }
  | _ => none }
def FiningKnownWrongFalsely : Prop := finingKnownRow.holds Tryd.pinned (OpenSpec.ofChange finingKnownWrong)

/- THE SECOND FORM. 'bulk': how many values and letters a reading holds, each counted each time it is reached (what is shared counts as often as it is met; a slice's spare places count too). A statement '..UptoSaid' is the law's where the arguments, and the package variables that the reading takes, are together of bulk at most 1048576: NARROWER than '..Said'. Prove '..Said' where nothing that the law and all that it calls make is longer than what came in: it says more and counts as full. Else prove '..UptoSaid'. A law counts once. -/
mutual
def uptoBulk {H : Type} : DataW H → Nat
  | .lit (.string bytes) => bytes.length + 1
  | .lit _ => 1
  | .nil => 1
  | .ptr d => uptoBulk d + 1
  | .slice elems spare => uptoBulkAll elems + uptoBulkAll spare + 1
  | .agg parts => uptoBulkAll parts + 1
  | .iface _ d => uptoBulk d + 1
  | .map entries => uptoBulkEntries entries + 1
  | .held _ => 1
def uptoBulkAll {H : Type} : List (DataW H) → Nat
  | [] => 0
  | d :: r => uptoBulk d + uptoBulkAll r
def uptoBulkEntries {H : Type} : List (Lit × DataW H) → Nat
  | [] => 0
  | x :: r => uptoBulkEntry x + uptoBulkEntries r
def uptoBulkEntry {H : Type} : Lit × DataW H → Nat
  | (.string bytes, d) => bytes.length + uptoBulk d + 1
  | (_, d) => uptoBulk d + 1
 end
def uptoSmall : (H : Type) → List (DataW H) → Bool := fun _ ds => decide (uptoBulkAll ds ≤ 1048576)
def OpenSpec.upto (s : _root_.Go.ChangeSpec) : _root_.Go.OpenSpec := { _root_.Go.OpenSpec.ofChange s with cond := some uptoSmall }

/-- 'muscovadolaw09.FiningBoths', WHERE WHAT IT READS IS OF BULK AT MOST 1048576: true; the input reads as it did. -/
def finingBothsUptoRow : OpenClaim := { program := "ytofkhehcnfiopaadoor", sum := "a2488c0c3da4958638ed736ceb581c05b926b9c18e76cafed30a46917dafef1e", func := "muscovado/muscovadolaw09.FiningBoths", spec := "finingBoths", inPlace := ["internal/reflectlite.ValueOf", "(internal/reflectlite.Value).Type", "(internal/reflectlite.Value).IsNil", "internal/reflectlite.TypeOf", "(internal/reflectlite.Value).Elem", "(internal/reflectlite.Value).Set"], unfollowed := true, recurses := true, named := ["errors.errorType"], plainKeys := false, leaving := true, apart := false, laid := [("errors.errorType", laid_errors_errorType)], narrowed := true }
def FiningBothsUptoSaid : Prop := finingBothsUptoRow.holds Tryd.pinned (OpenSpec.upto finingBothsSpec)

/-- 'muscovadolaw09.FiningCheapest', WHERE WHAT IT READS IS OF BULK AT MOST 1048576: true; the input reads as it did. -/
def finingCheapestUptoRow : OpenClaim := { program := "ytofkhehcnfiopaadoor", sum := "a2488c0c3da4958638ed736ceb581c05b926b9c18e76cafed30a46917dafef1e", func := "muscovado/muscovadolaw09.FiningCheapest", spec := "finingCheapest", inPlace := ["internal/reflectlite.ValueOf", "(internal/reflectlite.Value).Type", "(internal/reflectlite.Value).IsNil", "internal/reflectlite.TypeOf", "(internal/reflectlite.Value).Elem", "(internal/reflectlite.Value).Set"], unfollowed := true, recurses := true, named := ["errors.errorType"], plainKeys := false, leaving := true, apart := false, laid := [("errors.errorType", laid_errors_errorType)], narrowed := true }
def FiningCheapestUptoSaid : Prop := finingCheapestUptoRow.holds Tryd.pinned (OpenSpec.upto finingCheapestSpec)

/-- 'muscovadolaw09.FiningBoth', WHERE WHAT IT READS IS OF BULK AT MOST 1048576: true; the input reads as it did. -/
def finingBothUptoRow : OpenClaim := { program := "ytofkhehcnfiopaadoor", sum := "a2488c0c3da4958638ed736ceb581c05b926b9c18e76cafed30a46917dafef1e", func := "muscovado/muscovadolaw09.FiningBoth", spec := "finingBoth", inPlace := ["internal/reflectlite.ValueOf", "(internal/reflectlite.Value).Type", "(internal/reflectlite.Value).IsNil", "internal/reflectlite.TypeOf", "(internal/reflectlite.Value).Elem", "(internal/reflectlite.Value).Set"], unfollowed := true, recurses := true, named := ["errors.errorType"], plainKeys := false, leaving := true, apart := false, laid := [("errors.errorType", laid_errors_errorType)], narrowed := true }
def FiningBothUptoSaid : Prop := finingBothUptoRow.holds Tryd.pinned (OpenSpec.upto finingBothSpec)

/-- 'muscovadolaw09.FiningTells', WHERE WHAT IT READS IS OF BULK AT MOST 1048576: true; the input reads as it did. -/
def finingTellsUptoRow : OpenClaim := { program := "ytofkhehcnfiopaadoor", sum := "a2488c0c3da4958638ed736ceb581c05b926b9c18e76cafed30a46917dafef1e", func := "muscovado/muscovadolaw09.FiningTells", spec := "finingTells", inPlace := ["internal/reflectlite.ValueOf", "(internal/reflectlite.Value).Type", "(internal/reflectlite.Value).IsNil", "internal/reflectlite.TypeOf", "(internal/reflectlite.Value).Elem", "(internal/reflectlite.Value).Set"], unfollowed := true, recurses := true, named := ["errors.errorType"], plainKeys := false, leaving := true, apart := false, laid := [("errors.errorType", laid_errors_errorType)], narrowed := true }
def FiningTellsUptoSaid : Prop := finingTellsUptoRow.holds Tryd.pinned (OpenSpec.upto finingTellsSpec)

/-- 'muscovadolaw09.FiningPut', WHERE WHAT IT READS IS OF BULK AT MOST 1048576: true; the input reads as it did. -/
def finingPutUptoRow : OpenClaim := { program := "ytofkhehcnfiopaadoor", sum := "a2488c0c3da4958638ed736ceb581c05b926b9c18e76cafed30a46917dafef1e", func := "muscovado/muscovadolaw09.FiningPut", spec := "finingPut", inPlace := ["internal/reflectlite.ValueOf", "(internal/reflectlite.Value).Type", "(internal/reflectlite.Value).IsNil", "internal/reflectlite.TypeOf", "(internal/reflectlite.Value).Elem", "(internal/reflectlite.Value).Set"], unfollowed := true, recurses := true, named := ["errors.errorType"], plainKeys := false, leaving := true, apart := false, laid := [("errors.errorType", laid_errors_errorType)], narrowed := true }
def FiningPutUptoSaid : Prop := finingPutUptoRow.holds Tryd.pinned (OpenSpec.upto finingPutSpec)

/-- 'muscovadolaw09.FiningPuts', WHERE WHAT IT READS IS OF BULK AT MOST 1048576: true; the input reads as it did. -/
def finingPutsUptoRow : OpenClaim := { program := "ytofkhehcnfiopaadoor", sum := "a2488c0c3da4958638ed736ceb581c05b926b9c18e76cafed30a46917dafef1e", func := "muscovado/muscovadolaw09.FiningPuts", spec := "finingPuts", inPlace := ["internal/reflectlite.ValueOf", "(internal/reflectlite.Value).Type", "(internal/reflectlite.Value).IsNil", "internal/reflectlite.TypeOf", "(internal/reflectlite.Value).Elem", "(internal/reflectlite.Value).Set"], unfollowed := true, recurses := true, named := ["errors.errorType"], plainKeys := false, leaving := true, apart := false, laid := [("errors.errorType", laid_errors_errorType)], narrowed := true }
def FiningPutsUptoSaid : Prop := finingPutsUptoRow.holds Tryd.pinned (OpenSpec.upto finingPutsSpec)

/-- 'muscovadolaw09.FiningMore', WHERE WHAT IT READS IS OF BULK AT MOST 1048576: true; the input reads as it did. -/
def finingMoreUptoRow : OpenClaim := { program := "ytofkhehcnfiopaadoor", sum := "a2488c0c3da4958638ed736ceb581c05b926b9c18e76cafed30a46917dafef1e", func := "muscovado/muscovadolaw09.FiningMore", spec := "finingMore", inPlace := ["internal/reflectlite.ValueOf", "(internal/reflectlite.Value).Type", "(internal/reflectlite.Value).IsNil", "internal/reflectlite.TypeOf", "(internal/reflectlite.Value).Elem", "(internal/reflectlite.Value).Set"], unfollowed := true, recurses := true, named := ["errors.errorType"], plainKeys := false, leaving := true, apart := false, laid := [("errors.errorType", laid_errors_errorType)], narrowed := true }
def FiningMoreUptoSaid : Prop := finingMoreUptoRow.holds Tryd.pinned (OpenSpec.upto finingMoreSpec)

/-- 'muscovadolaw09.FiningNumbered', WHERE WHAT IT READS IS OF BULK AT MOST 1048576: true; the input reads as it did. -/
def finingNumberedUptoRow : OpenClaim := { program := "ytofkhehcnfiopaadoor", sum := "a2488c0c3da4958638ed736ceb581c05b926b9c18e76cafed30a46917dafef1e", func := "muscovado/muscovadolaw09.FiningNumbered", spec := "finingNumbered", inPlace := ["internal/reflectlite.ValueOf", "(internal/reflectlite.Value).Type", "(internal/reflectlite.Value).IsNil", "internal/reflectlite.TypeOf", "(internal/reflectlite.Value).Elem", "(internal/reflectlite.Value).Set"], unfollowed := true, recurses := true, named := ["errors.errorType"], plainKeys := false, leaving := true, apart := false, laid := [("errors.errorType", laid_errors_errorType)], narrowed := true }
def FiningNumberedUptoSaid : Prop := finingNumberedUptoRow.holds Tryd.pinned (OpenSpec.upto finingNumberedSpec)

/-- 'muscovadolaw09.FiningNeeds', WHERE WHAT IT READS IS OF BULK AT MOST 1048576: true; the input reads as it did. -/
def finingNeedsUptoRow : OpenClaim := { program := "ytofkhehcnfiopaadoor", sum := "a2488c0c3da4958638ed736ceb581c05b926b9c18e76cafed30a46917dafef1e", func := "muscovado/muscovadolaw09.FiningNeeds", spec := "finingNeeds", inPlace := ["internal/reflectlite.ValueOf", "(internal/reflectlite.Value).Type", "(internal/reflectlite.Value).IsNil", "internal/reflectlite.TypeOf", "(internal/reflectlite.Value).Elem", "(internal/reflectlite.Value).Set"], unfollowed := true, recurses := true, named := ["errors.errorType"], plainKeys := false, leaving := true, apart := false, laid := [("errors.errorType", laid_errors_errorType)], narrowed := true }
def FiningNeedsUptoSaid : Prop := finingNeedsUptoRow.holds Tryd.pinned (OpenSpec.upto finingNeedsSpec)

/-- 'muscovadolaw09.FiningNeeded', WHERE WHAT IT READS IS OF BULK AT MOST 1048576: true; the input reads as it did. -/
def finingNeededUptoRow : OpenClaim := { program := "ytofkhehcnfiopaadoor", sum := "a2488c0c3da4958638ed736ceb581c05b926b9c18e76cafed30a46917dafef1e", func := "muscovado/muscovadolaw09.FiningNeeded", spec := "finingNeeded", inPlace := ["internal/reflectlite.ValueOf", "(internal/reflectlite.Value).Type", "(internal/reflectlite.Value).IsNil", "internal/reflectlite.TypeOf", "(internal/reflectlite.Value).Elem", "(internal/reflectlite.Value).Set"], unfollowed := true, recurses := true, named := ["errors.errorType"], plainKeys := false, leaving := true, apart := false, laid := [("errors.errorType", laid_errors_errorType)], narrowed := true }
def FiningNeededUptoSaid : Prop := finingNeededUptoRow.holds Tryd.pinned (OpenSpec.upto finingNeededSpec)

/-- 'muscovadolaw09.FiningWays', WHERE WHAT IT READS IS OF BULK AT MOST 1048576: true; the input reads as it did. -/
def finingWaysUptoRow : OpenClaim := { program := "ytofkhehcnfiopaadoor", sum := "a2488c0c3da4958638ed736ceb581c05b926b9c18e76cafed30a46917dafef1e", func := "muscovado/muscovadolaw09.FiningWays", spec := "finingWays", inPlace := ["internal/reflectlite.ValueOf", "(internal/reflectlite.Value).Type", "(internal/reflectlite.Value).IsNil", "internal/reflectlite.TypeOf", "(internal/reflectlite.Value).Elem", "(internal/reflectlite.Value).Set"], unfollowed := true, recurses := true, named := ["errors.errorType"], plainKeys := false, leaving := true, apart := false, laid := [("errors.errorType", laid_errors_errorType)], narrowed := true }
def FiningWaysUptoSaid : Prop := finingWaysUptoRow.holds Tryd.pinned (OpenSpec.upto finingWaysSpec)

/-- 'muscovadolaw09.FiningReach', WHERE WHAT IT READS IS OF BULK AT MOST 1048576: true; the input reads as it did. -/
def finingReachUptoRow : OpenClaim := { program := "ytofkhehcnfiopaadoor", sum := "a2488c0c3da4958638ed736ceb581c05b926b9c18e76cafed30a46917dafef1e", func := "muscovado/muscovadolaw09.FiningReach", spec := "finingReach", inPlace := ["internal/reflectlite.ValueOf", "(internal/reflectlite.Value).Type", "(internal/reflectlite.Value).IsNil", "internal/reflectlite.TypeOf", "(internal/reflectlite.Value).Elem", "(internal/reflectlite.Value).Set"], unfollowed := true, recurses := true, named := ["errors.errorType"], plainKeys := false, leaving := true, apart := false, laid := [("errors.errorType", laid_errors_errorType)], narrowed := true }
def FiningReachUptoSaid : Prop := finingReachUptoRow.holds Tryd.pinned (OpenSpec.upto finingReachSpec)

/-- 'muscovadolaw09.FiningShortest', WHERE WHAT IT READS IS OF BULK AT MOST 1048576: true; the input reads as it did. -/
def finingShortestUptoRow : OpenClaim := { program := "ytofkhehcnfiopaadoor", sum := "a2488c0c3da4958638ed736ceb581c05b926b9c18e76cafed30a46917dafef1e", func := "muscovado/muscovadolaw09.FiningShortest", spec := "finingShortest", inPlace := ["internal/reflectlite.ValueOf", "(internal/reflectlite.Value).Type", "(internal/reflectlite.Value).IsNil", "internal/reflectlite.TypeOf", "(internal/reflectlite.Value).Elem", "(internal/reflectlite.Value).Set"], unfollowed := true, recurses := true, named := ["errors.errorType"], plainKeys := false, leaving := true, apart := false, laid := [("errors.errorType", laid_errors_errorType)], narrowed := true }
def FiningShortestUptoSaid : Prop := finingShortestUptoRow.holds Tryd.pinned (OpenSpec.upto finingShortestSpec)

/-- 'muscovadolaw09.FiningHopeless', WHERE WHAT IT READS IS OF BULK AT MOST 1048576: true; the input reads as it did. -/
def finingHopelessUptoRow : OpenClaim := { program := "ytofkhehcnfiopaadoor", sum := "a2488c0c3da4958638ed736ceb581c05b926b9c18e76cafed30a46917dafef1e", func := "muscovado/muscovadolaw09.FiningHopeless", spec := "finingHopeless", inPlace := ["internal/reflectlite.ValueOf", "(internal/reflectlite.Value).Type", "(internal/reflectlite.Value).IsNil", "internal/reflectlite.TypeOf", "(internal/reflectlite.Value).Elem", "(internal/reflectlite.Value).Set"], unfollowed := true, recurses := true, named := ["errors.errorType"], plainKeys := false, leaving := true, apart := false, laid := [("errors.errorType", laid_errors_errorType)], narrowed := true }
def FiningHopelessUptoSaid : Prop := finingHopelessUptoRow.holds Tryd.pinned (OpenSpec.upto finingHopelessSpec)

/-- 'muscovadolaw09.FiningFaults', WHERE WHAT IT READS IS OF BULK AT MOST 1048576: true; the input reads as it did. -/
def finingFaultsUptoRow : OpenClaim := { program := "ytofkhehcnfiopaadoor", sum := "a2488c0c3da4958638ed736ceb581c05b926b9c18e76cafed30a46917dafef1e", func := "muscovado/muscovadolaw09.FiningFaults", spec := "finingFaults", inPlace := ["internal/reflectlite.ValueOf", "(internal/reflectlite.Value).Type", "(internal/reflectlite.Value).IsNil", "internal/reflectlite.TypeOf", "(internal/reflectlite.Value).Elem", "(internal/reflectlite.Value).Set"], unfollowed := true, recurses := true, named := ["errors.errorType"], plainKeys := false, leaving := true, apart := false, laid := [("errors.errorType", laid_errors_errorType)], narrowed := true }
def FiningFaultsUptoSaid : Prop := finingFaultsUptoRow.holds Tryd.pinned (OpenSpec.upto finingFaultsSpec)

/-- 'muscovadolaw09.FiningHopes', WHERE WHAT IT READS IS OF BULK AT MOST 1048576: true; the input reads as it did. -/
def finingHopesUptoRow : OpenClaim := { program := "ytofkhehcnfiopaadoor", sum := "a2488c0c3da4958638ed736ceb581c05b926b9c18e76cafed30a46917dafef1e", func := "muscovado/muscovadolaw09.FiningHopes", spec := "finingHopes", inPlace := ["internal/reflectlite.ValueOf", "(internal/reflectlite.Value).Type", "(internal/reflectlite.Value).IsNil", "internal/reflectlite.TypeOf", "(internal/reflectlite.Value).Elem", "(internal/reflectlite.Value).Set"], unfollowed := true, recurses := true, named := ["errors.errorType"], plainKeys := false, leaving := true, apart := false, laid := [("errors.errorType", laid_errors_errorType)], narrowed := true }
def FiningHopesUptoSaid : Prop := finingHopesUptoRow.holds Tryd.pinned (OpenSpec.upto finingHopesSpec)

/-- 'muscovadolaw09.FiningFewest', WHERE WHAT IT READS IS OF BULK AT MOST 1048576: true; the input reads as it did. -/
def finingFewestUptoRow : OpenClaim := { program := "ytofkhehcnfiopaadoor", sum := "a2488c0c3da4958638ed736ceb581c05b926b9c18e76cafed30a46917dafef1e", func := "muscovado/muscovadolaw09.FiningFewest", spec := "finingFewest", inPlace := ["internal/reflectlite.ValueOf", "(internal/reflectlite.Value).Type", "(internal/reflectlite.Value).IsNil", "internal/reflectlite.TypeOf", "(internal/reflectlite.Value).Elem", "(internal/reflectlite.Value).Set"], unfollowed := true, recurses := true, named := ["errors.errorType"], plainKeys := false, leaving := true, apart := false, laid := [("errors.errorType", laid_errors_errorType)], narrowed := true }
def FiningFewestUptoSaid : Prop := finingFewestUptoRow.holds Tryd.pinned (OpenSpec.upto finingFewestSpec)

/-- 'muscovadolaw09.FiningKnown', WHERE WHAT IT READS IS OF BULK AT MOST 1048576: true; the input reads as it did. -/
def finingKnownUptoRow : OpenClaim := { program := "ytofkhehcnfiopaadoor", sum := "a2488c0c3da4958638ed736ceb581c05b926b9c18e76cafed30a46917dafef1e", func := "muscovado/muscovadolaw09.FiningKnown", spec := "finingKnown", inPlace := ["internal/reflectlite.ValueOf", "(internal/reflectlite.Value).Type", "(internal/reflectlite.Value).IsNil", "internal/reflectlite.TypeOf", "(internal/reflectlite.Value).Elem", "(internal/reflectlite.Value).Set"], unfollowed := true, recurses := true, named := ["errors.errorType"], plainKeys := false, leaving := true, apart := false, laid := [("errors.errorType", laid_errors_errorType)], narrowed := true }
def FiningKnownUptoSaid : Prop := finingKnownUptoRow.holds Tryd.pinned (OpenSpec.upto finingKnownSpec)

end Rows
end Go.Proofs.YtofkhehcnfiopaaDoor
