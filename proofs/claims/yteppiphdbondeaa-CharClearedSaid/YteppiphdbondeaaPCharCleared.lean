/- CharCleared returns true for every list of numbers and leaves its argument as it was, on every schedule of the goroutines that its calls start. -/
import Derived.Test.YteppiphdbondeaaSCharCleared10
import Derived.Test.YteppiphdbondeaaSCharCleared11
namespace Go.Proofs.Yteppiphdbondeaa.N
open Go Go.ChangeShapes Go.WideShapes Go.ChangeAt Go.RowKit Go.Proofs Go.Proofs.Yteppiphdbondeaa Go.Proofs.Yteppiphdbondeaa.Rows
set_option linter.unusedSectionVars false
set_option maxRecDepth 100000 in
theorem charCleared_lifted (os : Os) (started : os.Started) (H : Type) (enc : TypeId × Value → H) :
    ReturnsInLeavingWide {} Try.checked os 7 .any (charClearedSpec.pre6 enc Try.prog Try.f7 charClearedRow.domain false) (charClearedSpec.post enc Try.prog Try.f7 false true false false) :=
  zAm (C := Try.checked) 131 msgM own_ started (by kernel_rfl) Try.func7
    (ChangeSpec.witness6 (enc := enc) (C := Try.checked) false ⟨#[], #[.slice Option.none 0 0], []⟩ 8 (by kernel_rfl) (by kernel_rfl) (by kernel_rfl) (by kernel_rfl))
    (fun W base args ds gs before hval hW _ _ _ => zIu (s := charClearedSpec) (fn := Try.f7) rfl rfl rfl (fun _ => rfl) W (fun nA nc nums hN => @zJ0 (ZS W) (reaC_main W.heap.size) nA nc nums (seenZ W) hN (zTs W)) base args ds gs before hval hW)
set_option maxRecDepth 100000 in
theorem charCleared_inPlace : Try.prog.inPlace 7 = charClearedRow.inPlace := by kernel_rfl
set_option maxRecDepth 100000 in
theorem charCleared_unfollowed : Try.prog.unfollowed 7 = charClearedRow.unfollowed := by kernel_rfl
set_option maxRecDepth 100000 in
theorem charCleared_recurses : Try.prog.recurses 7 = charClearedRow.recurses := by kernel_rfl
set_option maxRecDepth 100000 in
theorem charCleared_named : Try.prog.varsNamed 7 = charClearedRow.named := by kernel_rfl
set_option maxRecDepth 100000 in
theorem charCleared_joined : joinedFacts Try.prog 7 Try.f7 charClearedSpec charClearedRow = true := by
  unfold joinedFacts
  rw [zL5, zPb, charCleared_inPlace, charCleared_unfollowed, charCleared_recurses, charCleared_named, zPz, zNb, may_, zXc, zYd]
  kernel_rfl
set_option maxRecDepth 100000 in
theorem charCleared_func : Try.prog.funcNamed "muscovado/muscovadolaw04.CharCleared" = some 7 := by kernel_rfl
set_option maxRecDepth 100000 in
theorem charCleared_holds : CharClearedSaid :=
  OpenClaim.holds_of_wide_leaving 7 Try.f7 rfl rfl rfl rfl rfl rfl rfl ⟨rfl, rfl, rfl, rfl, rfl⟩ rfl rfl rfl rfl rfl charCleared_func Try.func7 charCleared_joined
    (of_decide_eq_true (by kernel_rfl)) (by unfold Func.isWrapper; first | (rw [if_pos (by decide +kernel)]; kernel_rfl) | (rw [if_neg (by decide +kernel)]; exact ⟨rfl, rfl⟩))
    (fun os started H enc _ => charCleared_lifted os started H enc)
#print axioms charCleared_holds
end Go.Proofs.Yteppiphdbondeaa.N
