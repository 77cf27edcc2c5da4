/- CharStronger returns true for every list of numbers and leaves its argument as it was, on every schedule of the goroutines that its calls start. -/
import Derived.Test.YteppiphdbondeaaSCharStronger10
namespace Go.Proofs.Yteppiphdbondeaa.N
open Go Go.ChangeShapes Go.WideShapes Go.ChangeAt Go.RowKit Go.Proofs Go.Proofs.Yteppiphdbondeaa Go.Proofs.Yteppiphdbondeaa.Rows
set_option linter.unusedSectionVars false
set_option maxRecDepth 100000 in
theorem charStronger_lifted (os : Os) (started : os.Started) (H : Type) (enc : TypeId × Value → H) :
    ReturnsInLeavingWide {} Try.checked os 6 .any (charStrongerSpec.pre6 enc Try.prog Try.f6 charStrongerRow.domain false) (charStrongerSpec.post enc Try.prog Try.f6 false true false false) :=
  zAi (C := Try.checked) 131 msgM own_ started (by kernel_rfl) Try.func6
    (ChangeSpec.witness6 (enc := enc) (C := Try.checked) false ⟨#[], #[.slice Option.none 0 0], []⟩ 8 (by kernel_rfl) (by kernel_rfl) (by kernel_rfl) (by kernel_rfl))
    (fun W base args ds gs before hval hW _ _ _ => zIo (s := charStrongerSpec) (fn := Try.f6) rfl rfl rfl (fun _ => rfl) W (fun nA nc nums hN => @zIl (ZS W) (reaC_main W.heap.size) nA nc nums (seenZ W) hN (zTd W)) base args ds gs before hval hW)
set_option maxRecDepth 100000 in
theorem charStronger_inPlace : Try.prog.inPlace 6 = charStrongerRow.inPlace := by kernel_rfl
set_option maxRecDepth 100000 in
theorem charStronger_unfollowed : Try.prog.unfollowed 6 = charStrongerRow.unfollowed := by kernel_rfl
set_option maxRecDepth 100000 in
theorem charStronger_recurses : Try.prog.recurses 6 = charStrongerRow.recurses := by kernel_rfl
set_option maxRecDepth 100000 in
theorem charStronger_named : Try.prog.varsNamed 6 = charStrongerRow.named := by kernel_rfl
set_option maxRecDepth 100000 in
theorem charStronger_joined : joinedFacts Try.prog 6 Try.f6 charStrongerSpec charStrongerRow = true := by
  unfold joinedFacts
  rw [zLk, zO5, charStronger_inPlace, charStronger_unfollowed, charStronger_recurses, charStronger_named, zO4, zNh, may_, zXo, zX3]
  kernel_rfl
set_option maxRecDepth 100000 in
theorem charStronger_func : Try.prog.funcNamed "muscovado/muscovadolaw04.CharStronger" = some 6 := by kernel_rfl
set_option maxRecDepth 100000 in
theorem charStronger_holds : CharStrongerSaid :=
  OpenClaim.holds_of_wide_leaving 6 Try.f6 rfl rfl rfl rfl rfl rfl rfl ⟨rfl, rfl, rfl, rfl, rfl⟩ rfl rfl rfl rfl rfl charStronger_func Try.func6 charStronger_joined
    (of_decide_eq_true (by kernel_rfl)) (by unfold Func.isWrapper; first | (rw [if_pos (by decide +kernel)]; kernel_rfl) | (rw [if_neg (by decide +kernel)]; exact ⟨rfl, rfl⟩))
    (fun os started H enc _ => charStronger_lifted os started H enc)
#print axioms charStronger_holds
end Go.Proofs.Yteppiphdbondeaa.N
