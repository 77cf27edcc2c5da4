/- CharKnown returns true for every list of numbers and leaves its argument as it was, on every schedule of the goroutines that its calls start. -/
import Derived.Test.YteppiphdbondeaaSCharKnown10
namespace Go.Proofs.Yteppiphdbondeaa.N
open Go Go.ChangeShapes Go.WideShapes Go.ChangeAt Go.RowKit Go.Proofs Go.Proofs.Yteppiphdbondeaa Go.Proofs.Yteppiphdbondeaa.Rows
set_option linter.unusedSectionVars false
set_option maxRecDepth 100000 in
theorem charKnown_lifted (os : Os) (started : os.Started) (H : Type) (enc : TypeId × Value → H) :
    ReturnsInLeavingWide {} Try.checked os 12 .any (charKnownSpec.pre6 enc Try.prog Try.f12 charKnownRow.domain false) (charKnownSpec.post enc Try.prog Try.f12 false true false false) :=
  zAf (C := Try.checked) 131 msgM own_ started (by kernel_rfl) Try.func12
    (ChangeSpec.witness6 (enc := enc) (C := Try.checked) false ⟨#[], #[], []⟩ 8 (by kernel_rfl) (by kernel_rfl) (by kernel_rfl) (by kernel_rfl))
    (fun W base args ds gs before hval hW _ _ _ => zIs (s := charKnownSpec) (fn := Try.f12) rfl rfl rfl rfl W (@zMx (ZS W) (reaC_main W.heap.size) (seenZ W) (zSa W)) base args ds gs before hval hW)
set_option maxRecDepth 100000 in
theorem charKnown_inPlace : Try.prog.inPlace 12 = charKnownRow.inPlace := by kernel_rfl
set_option maxRecDepth 100000 in
theorem charKnown_unfollowed : Try.prog.unfollowed 12 = charKnownRow.unfollowed := by kernel_rfl
set_option maxRecDepth 100000 in
theorem charKnown_recurses : Try.prog.recurses 12 = charKnownRow.recurses := by kernel_rfl
set_option maxRecDepth 100000 in
theorem charKnown_named : Try.prog.varsNamed 12 = charKnownRow.named := by kernel_rfl
set_option maxRecDepth 100000 in
theorem charKnown_joined : joinedFacts Try.prog 12 Try.f12 charKnownSpec charKnownRow = true := by
  unfold joinedFacts
  rw [zRn, zOr, charKnown_inPlace, charKnown_unfollowed, charKnown_recurses, charKnown_named, zO0, zMe, may_, zWu, zXm]
  kernel_rfl
set_option maxRecDepth 100000 in
theorem charKnown_func : Try.prog.funcNamed "muscovado/muscovadolaw04.CharKnown" = some 12 := by kernel_rfl
set_option maxRecDepth 100000 in
theorem charKnown_holds : CharKnownSaid :=
  OpenClaim.holds_of_wide_leaving 12 Try.f12 rfl rfl rfl rfl rfl rfl rfl ⟨rfl, rfl, rfl, rfl, rfl⟩ rfl rfl rfl rfl rfl charKnown_func Try.func12 charKnown_joined
    (of_decide_eq_true (by kernel_rfl)) (by unfold Func.isWrapper; first | (rw [if_pos (by decide +kernel)]; kernel_rfl) | (rw [if_neg (by decide +kernel)]; exact ⟨rfl, rfl⟩))
    (fun os started H enc _ => charKnown_lifted os started H enc)
#print axioms charKnown_holds
end Go.Proofs.Yteppiphdbondeaa.N
