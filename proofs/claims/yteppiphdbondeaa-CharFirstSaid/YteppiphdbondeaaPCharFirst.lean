/- CharFirst returns true for every list of numbers and leaves its argument as it was, on every schedule of the goroutines that its calls start. -/
import Derived.Test.YteppiphdbondeaaSCharFirst10
import Derived.Test.YteppiphdbondeaaSCharFirst11
namespace Go.Proofs.Yteppiphdbondeaa.N
open Go Go.ChangeShapes Go.WideShapes Go.ChangeAt Go.RowKit Go.Proofs Go.Proofs.Yteppiphdbondeaa Go.Proofs.Yteppiphdbondeaa.Rows
set_option linter.unusedSectionVars false
set_option maxRecDepth 100000 in
theorem charFirst_lifted (os : Os) (started : os.Started) (H : Type) (enc : TypeId × Value → H) :
    ReturnsInLeavingWide {} Try.checked os 4 .any (charFirstSpec.pre6 enc Try.prog Try.f4 charFirstRow.domain false) (charFirstSpec.post enc Try.prog Try.f4 false true false false) :=
  returnsInLeavingWide_of_viewsZ (C := Try.checked) 131 msgM own_ started (by kernel_rfl) Try.func4
    (ChangeSpec.witness6 (enc := enc) (C := Try.checked) false ⟨#[], #[.slice Option.none 0 0], []⟩ 8 (by kernel_rfl) (by kernel_rfl) (by kernel_rfl) (by kernel_rfl))
    (fun W base args ds gs before hval hW _ _ _ => ints_contractV (s := charFirstSpec) (fn := Try.f4) rfl rfl rfl (fun _ => rfl) W (fun nA nc nums hN => @CharFirst_c (ZS W) (reaC_main W.heap.size) nA nc nums (seenZ W) hN (rdc_seen W)) base args ds gs before hval hW)
set_option maxRecDepth 100000 in
theorem charFirst_inPlace : Try.prog.inPlace 4 = charFirstRow.inPlace := by kernel_rfl
set_option maxRecDepth 100000 in
theorem charFirst_unfollowed : Try.prog.unfollowed 4 = charFirstRow.unfollowed := by kernel_rfl
set_option maxRecDepth 100000 in
theorem charFirst_recurses : Try.prog.recurses 4 = charFirstRow.recurses := by kernel_rfl
set_option maxRecDepth 100000 in
theorem charFirst_named : Try.prog.varsNamed 4 = charFirstRow.named := by kernel_rfl
set_option maxRecDepth 100000 in
theorem charFirst_joined : joinedFacts Try.prog 4 Try.f4 charFirstSpec charFirstRow = true := by
  unfold joinedFacts
  rw [laidOut_, mapsRowed_, charFirst_inPlace, charFirst_unfollowed, charFirst_recurses, charFirst_named, plainKeys_, stopsHeard_, may_, lifts_, make_]
  kernel_rfl
set_option maxRecDepth 100000 in
theorem charFirst_func : Try.prog.funcNamed "muscovado/muscovadolaw04.CharFirst" = some 4 := by kernel_rfl
set_option maxRecDepth 100000 in
theorem charFirst_holds : CharFirstSaid :=
  OpenClaim.holds_of_wide_leaving 4 Try.f4 rfl rfl rfl rfl rfl rfl rfl ⟨rfl, rfl, rfl, rfl, rfl⟩ rfl rfl rfl rfl rfl charFirst_func Try.func4 charFirst_joined
    (of_decide_eq_true (by kernel_rfl)) (by unfold Func.isWrapper; first | (rw [if_pos (by decide +kernel)]; kernel_rfl) | (rw [if_neg (by decide +kernel)]; exact ⟨rfl, rfl⟩))
    (fun os started H enc _ => charFirst_lifted os started H enc)
#print axioms charFirst_holds
end Go.Proofs.Yteppiphdbondeaa.N
