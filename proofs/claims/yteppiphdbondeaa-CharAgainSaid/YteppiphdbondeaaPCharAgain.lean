/- CharAgain returns true for every list of numbers and leaves its argument as it was, on every schedule of the goroutines that its calls start. -/
import Derived.Test.YteppiphdbondeaaSCharAgain10
namespace Go.Proofs.Yteppiphdbondeaa.N
open Go Go.ChangeShapes Go.WideShapes Go.ChangeAt Go.RowKit Go.Proofs Go.Proofs.Yteppiphdbondeaa Go.Proofs.Yteppiphdbondeaa.Rows
set_option linter.unusedSectionVars false
set_option maxRecDepth 100000 in
theorem charAgain_lifted (os : Os) (started : os.Started) (H : Type) (enc : TypeId × Value → H) :
    ReturnsInLeavingWide {} Try.checked os 8 .any (charAgainSpec.pre6 enc Try.prog Try.f8 charAgainRow.domain false) (charAgainSpec.post enc Try.prog Try.f8 false true false false) :=
  zAl (C := Try.checked) 131 msgM own_ started (by kernel_rfl) Try.func8
    (ChangeSpec.witness6 (enc := enc) (C := Try.checked) false ⟨#[], #[.slice Option.none 0 0], []⟩ 8 (by kernel_rfl) (by kernel_rfl) (by kernel_rfl) (by kernel_rfl))
    (fun W base args ds gs before hval hW _ _ _ => zI5 (s := charAgainSpec) (fn := Try.f8) rfl rfl rfl (fun _ => rfl) W (fun nA nc nums hN => @zNs (ZS W) (reaC_main W.heap.size) nA nc nums (seenZ W) hN (zS8 W)) base args ds gs before hval hW)
set_option maxRecDepth 100000 in
theorem charAgain_inPlace : Try.prog.inPlace 8 = charAgainRow.inPlace := by kernel_rfl
set_option maxRecDepth 100000 in
theorem charAgain_unfollowed : Try.prog.unfollowed 8 = charAgainRow.unfollowed := by kernel_rfl
set_option maxRecDepth 100000 in
theorem charAgain_recurses : Try.prog.recurses 8 = charAgainRow.recurses := by kernel_rfl
set_option maxRecDepth 100000 in
theorem charAgain_named : Try.prog.varsNamed 8 = charAgainRow.named := by kernel_rfl
set_option maxRecDepth 100000 in
theorem charAgain_joined : joinedFacts Try.prog 8 Try.f8 charAgainSpec charAgainRow = true := by
  unfold joinedFacts
  rw [zMh, zPu, charAgain_inPlace, charAgain_unfollowed, charAgain_recurses, charAgain_named, zPt, zNa, may_, zWw, zY2]
  kernel_rfl
set_option maxRecDepth 100000 in
theorem charAgain_func : Try.prog.funcNamed "muscovado/muscovadolaw04.CharAgain" = some 8 := by kernel_rfl
set_option maxRecDepth 100000 in
theorem charAgain_holds : CharAgainSaid :=
  OpenClaim.holds_of_wide_leaving 8 Try.f8 rfl rfl rfl rfl rfl rfl rfl ⟨rfl, rfl, rfl, rfl, rfl⟩ rfl rfl rfl rfl rfl charAgain_func Try.func8 charAgain_joined
    (of_decide_eq_true (by kernel_rfl)) (by unfold Func.isWrapper; first | (rw [if_pos (by decide +kernel)]; kernel_rfl) | (rw [if_neg (by decide +kernel)]; exact ⟨rfl, rfl⟩))
    (fun os started H enc _ => charAgain_lifted os started H enc)
#print axioms charAgain_holds
end Go.Proofs.Yteppiphdbondeaa.N
