/- FiningPut returns true for every list of numbers and leaves its argument as it was. On every schedule: the call starts no goroutine. The card ties the one listed variable to the program's text. -/
import Derived.Test.YtofkhehcnfiopaaDoorCRds
import Derived.Test.YtofkhehcnfiopaaDoorCLeave
import Derived.Test.YtofkhehcnfiopaaDoorTie
import Derived.Test.YtofkhehcnfiopaaDoorCards
namespace Go.Proofs.YtofkhehcnfiopaaDoor.N
open Go Go.ChangeShapes Go.WideShapes Go.ChangeAt Go.RowKit Go.Proofs Go.Proofs.YtofkhehcnfiopaaDoor Go.Proofs.YtofkhehcnfiopaaDoor.Rows
set_option maxRecDepth 100000 in
theorem finingPut_lifted (os : Os) (started : os.Started) (H : Type) (enc : TypeId × Value → H) :
    ReturnsInLeavingWide {} Tryd.checked os 7 .any (fun w args => (finingPutSpec.pre enc Tryd.prog Tryd.f7 [] false w args ∧ laidMetH Tryd.prog laidL w) ∧ sizedMet enc Tryd.prog Tryd.f7 (OpenSpec.ofChange finingPutSpec) false w args)
      (finingPutSpec.post enc Tryd.prog Tryd.f7 false true false false) :=
  returnsInLeavingWide_of_change_and (C := Tryd.checked) (X := fun w _ => laidMetH Tryd.prog laidL w) (fun _ _ _ hh h => h.of_heap hh) own_ started (by kernel_rfl) Tryd.func7
    (ChangeSpec.witness_at (enc := enc) (C := Tryd.checked) (os := os) (X := fun w _ => laidMetH Tryd.prog laidL w) false (laidWorld os) #[.slice Option.none 0 0] 8 rfl (by kernel_rfl) (by kernel_rfl) (by kernel_rfl) (by kernel_rfl) (by kernel_rfl) (laidWorld_met os _))
    (fun W base args ds gs before hval hW _ _ hL _ => ints_contract_h (s := finingPutSpec) (fn := Tryd.f7) rfl rfl rfl (fun _ => rfl) W (fun nA nc nums hR => FiningPut_c nA nc nums W hR (handle_of_laid hL)) base args ds gs before hval hW)
set_option maxRecDepth 100000 in
theorem finingPut_inPlace : Tryd.prog.inPlace 7 = finingPutRow.inPlace := by kernel_rfl
set_option maxRecDepth 100000 in
theorem finingPut_unfollowed : Tryd.prog.unfollowed 7 = finingPutRow.unfollowed := by kernel_rfl
set_option maxRecDepth 100000 in
theorem finingPut_recurses : Tryd.prog.recurses 7 = finingPutRow.recurses := by kernel_rfl
set_option maxRecDepth 100000 in
theorem finingPut_named : Tryd.prog.varsNamed 7 = finingPutRow.named := by kernel_rfl
set_option maxRecDepth 100000 in
theorem finingPut_joined : joinedFacts Tryd.prog 7 Tryd.f7 finingPutSpec finingPutRow = true := by
  unfold joinedFacts
  rw [laidOut_, mapsRowed_, finingPut_inPlace, finingPut_unfollowed, finingPut_recurses, finingPut_named, plainKeys_, stopsHeard_, may_, lifts_, make_]
  kernel_rfl
set_option maxRecDepth 100000 in
theorem finingPut_goes : true = finingPutRow.goesBy Tryd.prog := by kernel_rfl
set_option maxRecDepth 100000 in
theorem finingPut_func : Tryd.prog.funcNamed "muscovado/muscovadolaw09.FiningPut" = some 7 := by kernel_rfl
set_option maxRecDepth 100000 in
theorem finingPut_row : FiningPutSaid :=
  OpenClaim.holds_of_wide_leaving 7 Tryd.f7 rfl rfl rfl rfl rfl rfl rfl ⟨rfl, rfl, rfl, rfl, rfl⟩ rfl rfl rfl rfl rfl finingPut_func Tryd.func7 finingPut_joined
    (of_decide_eq_true (by kernel_rfl)) (by unfold Func.isWrapper; first | (rw [if_pos (by decide +kernel)]; kernel_rfl) | (rw [if_neg (by decide +kernel)]; exact ⟨rfl, rfl⟩))
    (fun os started H enc _ => finingPut_lifted os started H enc)
theorem finingPut_holds : FiningPutCardSaid :=
  holds_tied_goes .later [.handle] true (true, "437321f70021d751b7f694fe6f46c0bce8118bd37f4e411ca5cd723b0e0592db") true true
    finingPut_row (by kernel_rfl) finingPut_row_tie rfl ⟨rfl, rfl⟩ main_ rfl
    (fun f fn hf hfn => by
      obtain rfl : f = 7 := Option.some.inj (finingPut_func.symm.trans hf) |>.symm
      obtain rfl : fn = Tryd.f7 := (Option.some.inj (Tryd.func7.symm.trans hfn)).symm
      exact ⟨looks_.symm, fun j t ht => by
        have h3 : t = 25 := by
          rcases j with _ | j
          · exact (Option.some.inj (show some 25 = some t from ht)).symm
          · exact absurd (show (#[25] : Array Nat)[j + 1]? = some t from ht) (by simp)
        subst h3
        exact (show Tryd.prog.wantsStandIn 25 = false by kernel_rfl)⟩)
    finingPut_goes
#print axioms finingPut_holds
end Go.Proofs.YtofkhehcnfiopaaDoor.N
