/- FiningFewest returns true for every list of numbers and leaves its argument as it was. On every schedule: the call starts no goroutine. The card ties the one listed variable to the program's text. -/
import Derived.Test.YtofkhehcnfiopaaDoorSFiningFewest07
import Derived.Test.YtofkhehcnfiopaaDoorSFiningFewest08
import Derived.Test.YtofkhehcnfiopaaDoorTie
import Derived.Test.YtofkhehcnfiopaaDoorCards
namespace Go.Proofs.YtofkhehcnfiopaaDoor.N
open Go Go.ChangeShapes Go.WideShapes Go.ChangeAt Go.RowKit Go.Proofs Go.Proofs.YtofkhehcnfiopaaDoor Go.Proofs.YtofkhehcnfiopaaDoor.Rows
set_option maxRecDepth 100000 in
theorem finingFewest_lifted (os : Os) (started : os.Started) (H : Type) (enc : TypeId × Value → H) :
    ReturnsInLeavingWide {} Tryd.checked os 19 .any (fun w args => (finingFewestSpec.pre enc Tryd.prog Tryd.f19 [] false w args ∧ laidMetH Tryd.prog laidL w) ∧ sizedMet enc Tryd.prog Tryd.f19 (OpenSpec.ofChange finingFewestSpec) false w args)
      (finingFewestSpec.post enc Tryd.prog Tryd.f19 false true false false) :=
  returnsInLeavingWide_of_change_and (C := Tryd.checked) (X := fun w _ => laidMetH Tryd.prog laidL w) (fun _ _ _ hh h => h.of_heap hh) own_ started (by kernel_rfl) Tryd.func19
    (ChangeSpec.witness_at (enc := enc) (C := Tryd.checked) (os := os) (X := fun w _ => laidMetH Tryd.prog laidL w) false (laidWorld os) #[.slice Option.none 0 0] 8 rfl (by kernel_rfl) (by kernel_rfl) (by kernel_rfl) (by kernel_rfl) (by kernel_rfl) (laidWorld_met os _))
    (fun W base args ds gs before hval hW _ _ _ _ => ints_contract (s := finingFewestSpec) (fn := Tryd.f19) rfl rfl rfl (fun _ => rfl) FiningFewest_c W base args ds gs before hval hW)
set_option maxRecDepth 100000 in
theorem finingFewest_inPlace : Tryd.prog.inPlace 19 = finingFewestRow.inPlace := by kernel_rfl
set_option maxRecDepth 100000 in
theorem finingFewest_unfollowed : Tryd.prog.unfollowed 19 = finingFewestRow.unfollowed := by kernel_rfl
set_option maxRecDepth 100000 in
theorem finingFewest_recurses : Tryd.prog.recurses 19 = finingFewestRow.recurses := by kernel_rfl
set_option maxRecDepth 100000 in
theorem finingFewest_named : Tryd.prog.varsNamed 19 = finingFewestRow.named := by kernel_rfl
set_option maxRecDepth 100000 in
theorem finingFewest_joined : joinedFacts Tryd.prog 19 Tryd.f19 finingFewestSpec finingFewestRow = true := by
  unfold joinedFacts
  rw [laidOut_, mapsRowed_, finingFewest_inPlace, finingFewest_unfollowed, finingFewest_recurses, finingFewest_named, plainKeys_, stopsHeard_, may_, lifts_, make_]
  kernel_rfl
set_option maxRecDepth 100000 in
theorem finingFewest_goes : true = finingFewestRow.goesBy Tryd.prog := by kernel_rfl
set_option maxRecDepth 100000 in
theorem finingFewest_func : Tryd.prog.funcNamed "muscovado/muscovadolaw09.FiningFewest" = some 19 := by kernel_rfl
set_option maxRecDepth 100000 in
theorem finingFewest_row : FiningFewestSaid :=
  OpenClaim.holds_of_wide_leaving 19 Tryd.f19 rfl rfl rfl rfl rfl rfl rfl ⟨rfl, rfl, rfl, rfl, rfl⟩ rfl rfl rfl rfl rfl finingFewest_func Tryd.func19 finingFewest_joined
    (of_decide_eq_true (by kernel_rfl)) (by unfold Func.isWrapper; first | (rw [if_pos (by decide +kernel)]; kernel_rfl) | (rw [if_neg (by decide +kernel)]; exact ⟨rfl, rfl⟩))
    (fun os started H enc _ => finingFewest_lifted os started H enc)
theorem finingFewest_holds : FiningFewestCardSaid :=
  holds_tied_goes .later [.handle] true (true, "437321f70021d751b7f694fe6f46c0bce8118bd37f4e411ca5cd723b0e0592db") true true
    finingFewest_row (by kernel_rfl) finingFewest_row_tie rfl ⟨rfl, rfl⟩ main_ rfl
    (fun f fn hf hfn => by
      obtain rfl : f = 19 := Option.some.inj (finingFewest_func.symm.trans hf) |>.symm
      obtain rfl : fn = Tryd.f19 := (Option.some.inj (Tryd.func19.symm.trans hfn)).symm
      exact ⟨looks_.symm, fun j t ht => by
        have h3 : t = 25 := by
          rcases j with _ | j
          · exact (Option.some.inj (show some 25 = some t from ht)).symm
          · exact absurd (show (#[25] : Array Nat)[j + 1]? = some t from ht) (by simp)
        subst h3
        exact (show Tryd.prog.wantsStandIn 25 = false by kernel_rfl)⟩)
    finingFewest_goes
#print axioms finingFewest_holds
end Go.Proofs.YtofkhehcnfiopaaDoor.N
