/- FiningMore returns true for every list of numbers and leaves its argument as it was. On every schedule: the call starts no goroutine. The card ties the one listed variable to the program's text. -/
import Derived.Test.YtofkhehcnfiopaaDoorCMore
import Derived.Test.YtofkhehcnfiopaaDoorCLeave
import Derived.Test.YtofkhehcnfiopaaDoorTie
import Derived.Test.YtofkhehcnfiopaaDoorCards
namespace Go.Proofs.YtofkhehcnfiopaaDoor.N
open Go Go.ChangeShapes Go.WideShapes Go.ChangeAt Go.RowKit Go.Proofs Go.Proofs.YtofkhehcnfiopaaDoor Go.Proofs.YtofkhehcnfiopaaDoor.Rows
set_option maxRecDepth 100000 in
theorem finingMore_lifted (os : Os) (started : os.Started) (H : Type) (enc : TypeId × Value → H) :
    ReturnsInLeavingWide {} Tryd.checked os 9 .any (fun w args => (finingMoreSpec.pre enc Tryd.prog Tryd.f9 [] false w args ∧ laidMetH Tryd.prog laidL w) ∧ sizedMet enc Tryd.prog Tryd.f9 (OpenSpec.ofChange finingMoreSpec) false w args)
      (finingMoreSpec.post enc Tryd.prog Tryd.f9 false true false false) :=
  returnsInLeavingWide_of_change_and (C := Tryd.checked) (X := fun w _ => laidMetH Tryd.prog laidL w) (fun _ _ _ hh h => h.of_heap hh) own_ started (by kernel_rfl) Tryd.func9
    (ChangeSpec.witness_at (enc := enc) (C := Tryd.checked) (os := os) (X := fun w _ => laidMetH Tryd.prog laidL w) false (laidWorld os) #[.slice Option.none 0 0] 8 rfl (by kernel_rfl) (by kernel_rfl) (by kernel_rfl) (by kernel_rfl) (by kernel_rfl) (laidWorld_met os _))
    (fun W base args ds gs before hval hW _ _ _ _ => ints_contract (s := finingMoreSpec) (fn := Tryd.f9) rfl rfl rfl (fun _ => rfl) FiningMore_c W base args ds gs before hval hW)
set_option maxRecDepth 100000 in
theorem finingMore_inPlace : Tryd.prog.inPlace 9 = finingMoreRow.inPlace := by kernel_rfl
set_option maxRecDepth 100000 in
theorem finingMore_unfollowed : Tryd.prog.unfollowed 9 = finingMoreRow.unfollowed := by kernel_rfl
set_option maxRecDepth 100000 in
theorem finingMore_recurses : Tryd.prog.recurses 9 = finingMoreRow.recurses := by kernel_rfl
set_option maxRecDepth 100000 in
theorem finingMore_named : Tryd.prog.varsNamed 9 = finingMoreRow.named := by kernel_rfl
set_option maxRecDepth 100000 in
theorem finingMore_joined : joinedFacts Tryd.prog 9 Tryd.f9 finingMoreSpec finingMoreRow = true := by
  unfold joinedFacts
  rw [laidOut_, mapsRowed_, finingMore_inPlace, finingMore_unfollowed, finingMore_recurses, finingMore_named, plainKeys_, stopsHeard_, may_, lifts_, make_]
  kernel_rfl
set_option maxRecDepth 100000 in
theorem finingMore_goes : true = finingMoreRow.goesBy Tryd.prog := by kernel_rfl
set_option maxRecDepth 100000 in
theorem finingMore_func : Tryd.prog.funcNamed "muscovado/muscovadolaw09.FiningMore" = some 9 := by kernel_rfl
set_option maxRecDepth 100000 in
theorem finingMore_row : FiningMoreSaid :=
  OpenClaim.holds_of_wide_leaving 9 Tryd.f9 rfl rfl rfl rfl rfl rfl rfl ⟨rfl, rfl, rfl, rfl, rfl⟩ rfl rfl rfl rfl rfl finingMore_func Tryd.func9 finingMore_joined
    (of_decide_eq_true (by kernel_rfl)) (by unfold Func.isWrapper; first | (rw [if_pos (by decide +kernel)]; kernel_rfl) | (rw [if_neg (by decide +kernel)]; exact ⟨rfl, rfl⟩))
    (fun os started H enc _ => finingMore_lifted os started H enc)
theorem finingMore_holds : FiningMoreCardSaid :=
  holds_tied_goes .later [.handle] true (true, "437321f70021d751b7f694fe6f46c0bce8118bd37f4e411ca5cd723b0e0592db") true true
    finingMore_row (by kernel_rfl) finingMore_row_tie rfl ⟨rfl, rfl⟩ main_ rfl
    (fun f fn hf hfn => by
      obtain rfl : f = 9 := Option.some.inj (finingMore_func.symm.trans hf) |>.symm
      obtain rfl : fn = Tryd.f9 := (Option.some.inj (Tryd.func9.symm.trans hfn)).symm
      exact ⟨looks_.symm, fun j t ht => by
        have h3 : t = 25 := by
          rcases j with _ | j
          · exact (Option.some.inj (show some 25 = some t from ht)).symm
          · exact absurd (show (#[25] : Array Nat)[j + 1]? = some t from ht) (by simp)
        subst h3
        exact (show Tryd.prog.wantsStandIn 25 = false by kernel_rfl)⟩)
    finingMore_goes
#print axioms finingMore_holds
end Go.Proofs.YtofkhehcnfiopaaDoor.N
