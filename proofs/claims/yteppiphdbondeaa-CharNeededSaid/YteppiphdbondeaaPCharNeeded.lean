/- CharNeeded returns true for every list of numbers and leaves its argument as it was, on every schedule of the goroutines that its calls start. -/
import Derived.Test.YteppiphdbondeaaSCharNeeded10
namespace Go.Proofs.Yteppiphdbondeaa.N
open Go Go.ChangeShapes Go.WideShapes Go.ChangeAt Go.RowKit Go.Proofs Go.Proofs.Yteppiphdbondeaa Go.Proofs.Yteppiphdbondeaa.Rows
set_option linter.unusedSectionVars false
set_option maxRecDepth 100000 in
theorem charNeeded_lifted (os : Os) (started : os.Started) (H : Type) (enc : TypeId × Value → H) :
    ReturnsInLeavingWide {} Try.checked os 9 .any (charNeededSpec.pre6 enc Try.prog Try.f9 charNeededRow.domain false) (charNeededSpec.post enc Try.prog Try.f9 false true false false) :=
  zAj (C := Try.checked) 131 msgM own_ started (by kernel_rfl) Try.func9
    (ChangeSpec.witness6 (enc := enc) (C := Try.checked) false ⟨#[], #[.slice Option.none 0 0], []⟩ 8 (by kernel_rfl) (by kernel_rfl) (by kernel_rfl) (by kernel_rfl))
    (fun W base args ds gs before hval hW _ _ _ => zIr (s := charNeededSpec) (fn := Try.f9) rfl rfl rfl (fun _ => rfl) W (fun nA nc nums hN => @zKx (ZS W) (reaC_main W.heap.size) nA nc nums (seenZ W) hN (zR8 W)) base args ds gs before hval hW)
set_option maxRecDepth 100000 in
theorem charNeeded_inPlace : Try.prog.inPlace 9 = charNeededRow.inPlace := by kernel_rfl
set_option maxRecDepth 100000 in
theorem charNeeded_unfollowed : Try.prog.unfollowed 9 = charNeededRow.unfollowed := by kernel_rfl
set_option maxRecDepth 100000 in
theorem charNeeded_recurses : Try.prog.recurses 9 = charNeededRow.recurses := by kernel_rfl
set_option maxRecDepth 100000 in
theorem charNeeded_named : Try.prog.varsNamed 9 = charNeededRow.named := by kernel_rfl
set_option maxRecDepth 100000 in
theorem charNeeded_joined : joinedFacts Try.prog 9 Try.f9 charNeededSpec charNeededRow = true := by
  unfold joinedFacts
  rw [zLv, zOy, charNeeded_inPlace, charNeeded_unfollowed, charNeeded_recurses, charNeeded_named, zOr, zMm, may_, zXc, zXy]
  kernel_rfl
set_option maxRecDepth 100000 in
theorem charNeeded_func : Try.prog.funcNamed "muscovado/muscovadolaw04.CharNeeded" = some 9 := by kernel_rfl
set_option maxRecDepth 100000 in
theorem charNeeded_holds : CharNeededSaid :=
  OpenClaim.holds_of_wide_leaving 9 Try.f9 rfl rfl rfl rfl rfl rfl rfl ⟨rfl, rfl, rfl, rfl, rfl⟩ rfl rfl rfl rfl rfl charNeeded_func Try.func9 charNeeded_joined
    (of_decide_eq_true (by kernel_rfl)) (by unfold Func.isWrapper; first | (rw [if_pos (by decide +kernel)]; kernel_rfl) | (rw [if_neg (by decide +kernel)]; exact ⟨rfl, rfl⟩))
    (fun os started H enc _ => charNeeded_lifted os started H enc)
#print axioms charNeeded_holds
end Go.Proofs.Yteppiphdbondeaa.N
