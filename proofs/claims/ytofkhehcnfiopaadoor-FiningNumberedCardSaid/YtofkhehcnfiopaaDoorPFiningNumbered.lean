/- FiningNumbered returns true for every list of numbers and leaves its argument as it was. On every schedule: the call starts no goroutine. The card ties the one listed variable to the program's text. -/
import Derived.Test.YtofkhehcnfiopaaDoorCSx8
import Derived.Test.YtofkhehcnfiopaaDoorCLeave
import Derived.Test.YtofkhehcnfiopaaDoorTie
import Derived.Test.YtofkhehcnfiopaaDoorCards
namespace Go.Proofs.YtofkhehcnfiopaaDoor.N
open Go Go.ChangeShapes Go.WideShapes Go.ChangeAt Go.RowKit Go.Proofs Go.Proofs.YtofkhehcnfiopaaDoor Go.Proofs.YtofkhehcnfiopaaDoor.Rows
set_option maxRecDepth 100000 in
theorem finingNumbered_lifted (os : Os) (started : os.Started) (H : Type) (enc : TypeId × Value → H) :
    ReturnsInLeavingWide {} Tryd.checked os 10 .any (fun w args => (finingNumberedSpec.pre enc Tryd.prog Tryd.f10 [] false w args ∧ laidMetH Tryd.prog laidL w) ∧ sizedMet enc Tryd.prog Tryd.f10 (OpenSpec.ofChange finingNumberedSpec) false w args)
      (finingNumberedSpec.post enc Tryd.prog Tryd.f10 false true false false) :=
  returnsInLeavingWide_of_change_and (C := Tryd.checked) (X := fun w _ => laidMetH Tryd.prog laidL w) (fun _ _ _ hh h => h.of_heap hh) own_ started (by kernel_rfl) Tryd.func10
    (ChangeSpec.witness_at (enc := enc) (C := Tryd.checked) (os := os) (X := fun w _ => laidMetH Tryd.prog laidL w) false (laidWorld os) #[.slice Option.none 0 0] 8 rfl (by kernel_rfl) (by kernel_rfl) (by kernel_rfl) (by kernel_rfl) (by kernel_rfl) (laidWorld_met os _))
    (fun W base args ds gs before hval hW _ _ _ _ => ints_contract (s := finingNumberedSpec) (fn := Tryd.f10) rfl rfl rfl (fun _ => rfl) FiningNumbered_c W base args ds gs before hval hW)
set_option maxRecDepth 100000 in
theorem finingNumbered_inPlace : Tryd.prog.inPlace 10 = finingNumberedRow.inPlace := by kernel_rfl
set_option maxRecDepth 100000 in
theorem finingNumbered_unfollowed : Tryd.prog.unfollowed 10 = finingNumberedRow.unfollowed := by kernel_rfl
set_option maxRecDepth 100000 in
theorem finingNumbered_recurses : Tryd.prog.recurses 10 = finingNumberedRow.recurses := by kernel_rfl
set_option maxRecDepth 100000 in
theorem finingNumbered_named : Tryd.prog.varsNamed 10 = finingNumberedRow.named := by kernel_rfl
set_option maxRecDepth 100000 in
theorem finingNumbered_joined : joinedFacts Tryd.prog 10 Tryd.f10 finingNumberedSpec finingNumberedRow = true := by
  unfold joinedFacts
  rw [laidOut_, mapsRowed_, finingNumbered_inPlace, finingNumbered_unfollowed, finingNumbered_recurses, finingNumbered_named, plainKeys_, stopsHeard_, may_, lifts_, make_]
  kernel_rfl
set_option maxRecDepth 100000 in
theorem finingNumbered_goes : true = finingNumberedRow.goesBy Tryd.prog := by kernel_rfl
set_option maxRecDepth 100000 in
theorem finingNumbered_func : Tryd.prog.funcNamed "muscovado/muscovadolaw09.FiningNumbered" = some 10 := by kernel_rfl
set_option maxRecDepth 100000 in
theorem finingNumbered_row : FiningNumberedSaid :=
  OpenClaim.holds_of_wide_leaving 10 Tryd.f10 rfl rfl rfl rfl rfl rfl rfl ⟨rfl, rfl, rfl, rfl, rfl⟩ rfl rfl rfl rfl rfl finingNumbered_func Tryd.func10 finingNumbered_joined
    (of_decide_eq_true (by kernel_rfl)) (by unfold Func.isWrapper; first | (rw [if_pos (by decide +kernel)]; kernel_rfl) | (rw [if_neg (by decide +kernel)]; exact ⟨rfl, rfl⟩))
    (fun os started H enc _ => finingNumbered_lifted os started H enc)
theorem finingNumbered_holds : FiningNumberedCardSaid :=
  holds_tied_goes .later [.handle] true (true, "437321f70021d751b7f694fe6f46c0bce8118bd37f4e411ca5cd723b0e0592db") true true
    finingNumbered_row (by kernel_rfl) finingNumbered_row_tie rfl ⟨rfl, rfl⟩ main_ rfl
    (fun f fn hf hfn => by
      obtain rfl : f = 10 := Option.some.inj (finingNumbered_func.symm.trans hf) |>.symm
      obtain rfl : fn = Tryd.f10 := (Option.some.inj (Tryd.func10.symm.trans hfn)).symm
      exact ⟨looks_.symm, fun j t ht => by
        have h3 : t = 25 := by
          rcases j with _ | j
          · exact (Option.some.inj (show some 25 = some t from ht)).symm
          · exact absurd (show (#[25] : Array Nat)[j + 1]? = some t from ht) (by simp)
        subst h3
        exact (show Tryd.prog.wantsStandIn 25 = false by kernel_rfl)⟩)
    finingNumbered_goes
#print axioms finingNumbered_holds
end Go.Proofs.YtofkhehcnfiopaaDoor.N
