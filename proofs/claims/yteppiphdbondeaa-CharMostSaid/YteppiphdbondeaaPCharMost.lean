/- CharMost returns true for every list of numbers and leaves its argument as it was, on every schedule of the goroutines that its calls start. -/
import Derived.Test.YteppiphdbondeaaSCharMost10
import Derived.Test.YteppiphdbondeaaSCharMost11
namespace Go.Proofs.Yteppiphdbondeaa.N
open Go Go.ChangeShapes Go.WideShapes Go.ChangeAt Go.RowKit Go.Proofs Go.Proofs.Yteppiphdbondeaa Go.Proofs.Yteppiphdbondeaa.Rows
set_option linter.unusedSectionVars false
set_option maxRecDepth 100000 in
theorem charMost_lifted (os : Os) (started : os.Started) (H : Type) (enc : TypeId × Value → H) :
    ReturnsInLeavingWide {} Try.checked os 11 .any (charMostSpec.pre6 enc Try.prog Try.f11 charMostRow.domain false) (charMostSpec.post enc Try.prog Try.f11 false true false false) :=
  zAj (C := Try.checked) 131 msgM own_ started (by kernel_rfl) Try.func11
    (ChangeSpec.witness6 (enc := enc) (C := Try.checked) false ⟨#[], #[.slice Option.none 0 0], []⟩ 8 (by kernel_rfl) (by kernel_rfl) (by kernel_rfl) (by kernel_rfl))
    (fun W base args ds gs before hval hW _ _ _ => zIv (s := charMostSpec) (fn := Try.f11) rfl rfl rfl (fun _ => rfl) W (fun nA nc nums hN => @zPd (ZS W) (reaC_main W.heap.size) nA nc nums (seenZ W) hN (zUg W)) base args ds gs before hval hW)
set_option maxRecDepth 100000 in
theorem charMost_inPlace : Try.prog.inPlace 11 = charMostRow.inPlace := by kernel_rfl
set_option maxRecDepth 100000 in
theorem charMost_unfollowed : Try.prog.unfollowed 11 = charMostRow.unfollowed := by kernel_rfl
set_option maxRecDepth 100000 in
theorem charMost_recurses : Try.prog.recurses 11 = charMostRow.recurses := by kernel_rfl
set_option maxRecDepth 100000 in
theorem charMost_named : Try.prog.varsNamed 11 = charMostRow.named := by kernel_rfl
set_option maxRecDepth 100000 in
theorem charMost_joined : joinedFacts Try.prog 11 Try.f11 charMostSpec charMostRow = true := by
  unfold joinedFacts
  rw [zLu, zQa, charMost_inPlace, charMost_unfollowed, charMost_recurses, charMost_named, zPb, zNm, may_, zX1, zZi]
  kernel_rfl
set_option maxRecDepth 100000 in
theorem charMost_func : Try.prog.funcNamed "muscovado/muscovadolaw04.CharMost" = some 11 := by kernel_rfl
set_option maxRecDepth 100000 in
theorem charMost_holds : CharMostSaid :=
  OpenClaim.holds_of_wide_leaving 11 Try.f11 rfl rfl rfl rfl rfl rfl rfl ⟨rfl, rfl, rfl, rfl, rfl⟩ rfl rfl rfl rfl rfl charMost_func Try.func11 charMost_joined
    (of_decide_eq_true (by kernel_rfl)) (by unfold Func.isWrapper; first | (rw [if_pos (by decide +kernel)]; kernel_rfl) | (rw [if_neg (by decide +kernel)]; exact ⟨rfl, rfl⟩))
    (fun os started H enc _ => charMost_lifted os started H enc)
#print axioms charMost_holds
end Go.Proofs.Yteppiphdbondeaa.N
