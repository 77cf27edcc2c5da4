/- CharBuy returns true for every list of numbers and leaves its argument as it was, on every schedule of the goroutines that its calls start. -/
import Derived.Test.YteppiphdbondeaaSCharBuy10
namespace Go.Proofs.Yteppiphdbondeaa.N
open Go Go.ChangeShapes Go.WideShapes Go.ChangeAt Go.RowKit Go.Proofs Go.Proofs.Yteppiphdbondeaa Go.Proofs.Yteppiphdbondeaa.Rows
set_option linter.unusedSectionVars false
set_option maxRecDepth 100000 in
theorem charBuy_lifted (os : Os) (started : os.Started) (H : Type) (enc : TypeId × Value → H) :
    ReturnsInLeavingWide {} Try.checked os 5 .any (charBuySpec.pre6 enc Try.prog Try.f5 charBuyRow.domain false) (charBuySpec.post enc Try.prog Try.f5 false true false false) :=
  zAg (C := Try.checked) 131 msgM own_ started (by kernel_rfl) Try.func5
    (ChangeSpec.witness6 (enc := enc) (C := Try.checked) false ⟨#[], #[.slice Option.none 0 0], []⟩ 8 (by kernel_rfl) (by kernel_rfl) (by kernel_rfl) (by kernel_rfl))
    (fun W base args ds gs before hval hW _ _ _ => zIe (s := charBuySpec) (fn := Try.f5) rfl rfl rfl (fun _ => rfl) W (fun nA nc nums hN => @zQ2 (ZS W) (reaC_main W.heap.size) nA nc nums (seenZ W) hN (zR8 W)) base args ds gs before hval hW)
set_option maxRecDepth 100000 in
theorem charBuy_inPlace : Try.prog.inPlace 5 = charBuyRow.inPlace := by kernel_rfl
set_option maxRecDepth 100000 in
theorem charBuy_unfollowed : Try.prog.unfollowed 5 = charBuyRow.unfollowed := by kernel_rfl
set_option maxRecDepth 100000 in
theorem charBuy_recurses : Try.prog.recurses 5 = charBuyRow.recurses := by kernel_rfl
set_option maxRecDepth 100000 in
theorem charBuy_named : Try.prog.varsNamed 5 = charBuyRow.named := by kernel_rfl
set_option maxRecDepth 100000 in
theorem charBuy_joined : joinedFacts Try.prog 5 Try.f5 charBuySpec charBuyRow = true := by
  unfold joinedFacts
  rw [zLf, zOh, charBuy_inPlace, charBuy_unfollowed, charBuy_recurses, charBuy_named, zOx, zL2, may_, zV7, zW1]
  kernel_rfl
set_option maxRecDepth 100000 in
theorem charBuy_func : Try.prog.funcNamed "muscovado/muscovadolaw04.CharBuy" = some 5 := by kernel_rfl
set_option maxRecDepth 100000 in
theorem charBuy_holds : CharBuySaid :=
  OpenClaim.holds_of_wide_leaving 5 Try.f5 rfl rfl rfl rfl rfl rfl rfl ⟨rfl, rfl, rfl, rfl, rfl⟩ rfl rfl rfl rfl rfl charBuy_func Try.func5 charBuy_joined
    (of_decide_eq_true (by kernel_rfl)) (by unfold Func.isWrapper; first | (rw [if_pos (by decide +kernel)]; kernel_rfl) | (rw [if_neg (by decide +kernel)]; exact ⟨rfl, rfl⟩))
    (fun os started H enc _ => charBuy_lifted os started H enc)
#print axioms charBuy_holds
end Go.Proofs.Yteppiphdbondeaa.N
