/- CharFewest returns true for every list of numbers and leaves its argument as it was, on every schedule of the goroutines that its calls start. -/
import Derived.Test.YteppiphdbondeaaSCharFewest10
namespace Go.Proofs.Yteppiphdbondeaa.N
open Go Go.ChangeShapes Go.WideShapes Go.ChangeAt Go.RowKit Go.Proofs Go.Proofs.Yteppiphdbondeaa Go.Proofs.Yteppiphdbondeaa.Rows
set_option linter.unusedSectionVars false
set_option maxRecDepth 100000 in
theorem charFewest_lifted (os : Os) (started : os.Started) (H : Type) (enc : TypeId × Value → H) :
    ReturnsInLeavingWide {} Try.checked os 3 .any (charFewestSpec.pre6 enc Try.prog Try.f3 charFewestRow.domain false) (charFewestSpec.post enc Try.prog Try.f3 false true false false) :=
  zAw (C := Try.checked) 131 msgM own_ started (by kernel_rfl) Try.func3
    (ChangeSpec.witness6 (enc := enc) (C := Try.checked) false ⟨#[], #[.slice Option.none 0 0], []⟩ 8 (by kernel_rfl) (by kernel_rfl) (by kernel_rfl) (by kernel_rfl))
    (fun W base args ds gs before hval hW _ _ _ => zJu (s := charFewestSpec) (fn := Try.f3) rfl rfl rfl (fun _ => rfl) W (fun nA nc nums hN => @zMi (ZS W) (reaC_main W.heap.size) nA nc nums (seenZ W) hN (zT4 W)) base args ds gs before hval hW)
set_option maxRecDepth 100000 in
theorem charFewest_inPlace : Try.prog.inPlace 3 = charFewestRow.inPlace := by kernel_rfl
set_option maxRecDepth 100000 in
theorem charFewest_unfollowed : Try.prog.unfollowed 3 = charFewestRow.unfollowed := by kernel_rfl
set_option maxRecDepth 100000 in
theorem charFewest_recurses : Try.prog.recurses 3 = charFewestRow.recurses := by kernel_rfl
set_option maxRecDepth 100000 in
theorem charFewest_named : Try.prog.varsNamed 3 = charFewestRow.named := by kernel_rfl
set_option maxRecDepth 100000 in
theorem charFewest_joined : joinedFacts Try.prog 3 Try.f3 charFewestSpec charFewestRow = true := by
  unfold joinedFacts
  rw [zMs, zQk, charFewest_inPlace, charFewest_unfollowed, charFewest_recurses, charFewest_named, zP2, zNz, may_, zXj, zZ8]
  kernel_rfl
set_option maxRecDepth 100000 in
theorem charFewest_func : Try.prog.funcNamed "muscovado/muscovadolaw04.CharFewest" = some 3 := by kernel_rfl
set_option maxRecDepth 100000 in
theorem charFewest_holds : CharFewestSaid :=
  OpenClaim.holds_of_wide_leaving 3 Try.f3 rfl rfl rfl rfl rfl rfl rfl ⟨rfl, rfl, rfl, rfl, rfl⟩ rfl rfl rfl rfl rfl charFewest_func Try.func3 charFewest_joined
    (of_decide_eq_true (by kernel_rfl)) (by unfold Func.isWrapper; first | (rw [if_pos (by decide +kernel)]; kernel_rfl) | (rw [if_neg (by decide +kernel)]; exact ⟨rfl, rfl⟩))
    (fun os started H enc _ => charFewest_lifted os started H enc)
#print axioms charFewest_holds
end Go.Proofs.Yteppiphdbondeaa.N
