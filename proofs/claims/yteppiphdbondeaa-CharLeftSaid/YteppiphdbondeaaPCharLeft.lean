/- CharLeft returns true for every list of numbers and leaves its argument as it was, on every schedule of the goroutines that its calls start. -/
import Derived.Test.YteppiphdbondeaaSCharLeft10
namespace Go.Proofs.Yteppiphdbondeaa.N
open Go Go.ChangeShapes Go.WideShapes Go.ChangeAt Go.RowKit Go.Proofs Go.Proofs.Yteppiphdbondeaa Go.Proofs.Yteppiphdbondeaa.Rows
set_option linter.unusedSectionVars false
set_option maxRecDepth 100000 in
theorem charLeft_lifted (os : Os) (started : os.Started) (H : Type) (enc : TypeId × Value → H) :
    ReturnsInLeavingWide {} Try.checked os 10 .any (charLeftSpec.pre6 enc Try.prog Try.f10 charLeftRow.domain false) (charLeftSpec.post enc Try.prog Try.f10 false true false false) :=
  zAj (C := Try.checked) 131 msgM own_ started (by kernel_rfl) Try.func10
    (ChangeSpec.witness6 (enc := enc) (C := Try.checked) false ⟨#[], #[.slice Option.none 0 0], []⟩ 8 (by kernel_rfl) (by kernel_rfl) (by kernel_rfl) (by kernel_rfl))
    (fun W base args ds gs before hval hW _ _ _ => zJa (s := charLeftSpec) (fn := Try.f10) rfl rfl rfl (fun _ => rfl) W (fun nA nc nums hN => @zP9 (ZS W) (reaC_main W.heap.size) nA nc nums (seenZ W) hN (zUe W)) base args ds gs before hval hW)
set_option maxRecDepth 100000 in
theorem charLeft_inPlace : Try.prog.inPlace 10 = charLeftRow.inPlace := by kernel_rfl
set_option maxRecDepth 100000 in
theorem charLeft_unfollowed : Try.prog.unfollowed 10 = charLeftRow.unfollowed := by kernel_rfl
set_option maxRecDepth 100000 in
theorem charLeft_recurses : Try.prog.recurses 10 = charLeftRow.recurses := by kernel_rfl
set_option maxRecDepth 100000 in
theorem charLeft_named : Try.prog.varsNamed 10 = charLeftRow.named := by kernel_rfl
set_option maxRecDepth 100000 in
theorem charLeft_joined : joinedFacts Try.prog 10 Try.f10 charLeftSpec charLeftRow = true := by
  unfold joinedFacts
  rw [zLx, zO7, charLeft_inPlace, charLeft_unfollowed, charLeft_recurses, charLeft_named, zPd, zM8, may_, zYk, zY9]
  kernel_rfl
set_option maxRecDepth 100000 in
theorem charLeft_func : Try.prog.funcNamed "muscovado/muscovadolaw04.CharLeft" = some 10 := by kernel_rfl
set_option maxRecDepth 100000 in
theorem charLeft_holds : CharLeftSaid :=
  OpenClaim.holds_of_wide_leaving 10 Try.f10 rfl rfl rfl rfl rfl rfl rfl ⟨rfl, rfl, rfl, rfl, rfl⟩ rfl rfl rfl rfl rfl charLeft_func Try.func10 charLeft_joined
    (of_decide_eq_true (by kernel_rfl)) (by unfold Func.isWrapper; first | (rw [if_pos (by decide +kernel)]; kernel_rfl) | (rw [if_neg (by decide +kernel)]; exact ⟨rfl, rfl⟩))
    (fun os started H enc _ => charLeft_lifted os started H enc)
#print axioms charLeft_holds
end Go.Proofs.Yteppiphdbondeaa.N
