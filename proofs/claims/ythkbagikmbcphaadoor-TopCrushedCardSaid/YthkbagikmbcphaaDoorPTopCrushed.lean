/- TopCrushed returns true for every list of numbers and leaves its argument as it was. The card ties the one listed variable to the program's text. -/
import Derived.Test.YthkbagikmbcphaaDoorSTopCrushed10
import Derived.Test.YthkbagikmbcphaaDoorTie
import Derived.Test.YthkbagikmbcphaaDoorCards
import Derived.Test.YthkbagikmbcphaaDoorSTopCrushed00
import Derived.Test.YthkbagikmbcphaaDoorSTopCrushed01
namespace Go.Proofs.YthkbagikmbcphaaDoor.N
open Go Go.ChangeShapes Go.WideShapes Go.ChangeAt Go.RowKit Go.Proofs Go.Proofs.YthkbagikmbcphaaDoor Go.Proofs.YthkbagikmbcphaaDoor.Rows
set_option maxRecDepth 100000 in
theorem topCrushed_lifted (os : Os) (started : os.Started) (H : Type) (enc : TypeId × Value → H) :
    ReturnsInHanded {} Tryd.checked os 3 .any (fun w args => (topCrushedSpec.pre enc Tryd.prog Tryd.f3 [] false w args ∧ laidMetH Tryd.prog laidL w) ∧ sizedMet enc Tryd.prog Tryd.f3 (OpenSpec.ofChange topCrushedSpec) false w args)
      (topCrushedSpec.post enc Tryd.prog Tryd.f3 false true false false) :=
  returnsInHanded_of_change_and (C := Tryd.checked) (X := fun w _ => laidMetH Tryd.prog laidL w) (fun _ _ _ hh h => h.of_heap hh) own_ started (by kernel_rfl) Tryd.func3
    (ChangeSpec.witness_at (enc := enc) (C := Tryd.checked) (os := os) (X := fun w _ => laidMetH Tryd.prog laidL w) false (laidWorld os) #[.slice Option.none 0 0] 8 rfl (by kernel_rfl) (by kernel_rfl) (by kernel_rfl) (by kernel_rfl) (by kernel_rfl) (laidWorld_met os _))
    (fun W base args ds gs before hval hW _ _ hL _ => ints_contract_h (s := topCrushedSpec) (fn := Tryd.f3) rfl rfl rfl (fun _ => rfl) W (fun nA nc nums hN => TopCrushed_c nA nc nums W hN (handle_of_laid hL)) base args ds gs before hval hW)
set_option maxRecDepth 100000 in
theorem topCrushed_inPlace : Tryd.prog.inPlace 3 = topCrushedRow.inPlace := by kernel_rfl
set_option maxRecDepth 100000 in
theorem topCrushed_unfollowed : Tryd.prog.unfollowed 3 = topCrushedRow.unfollowed := by kernel_rfl
set_option maxRecDepth 100000 in
theorem topCrushed_recurses : Tryd.prog.recurses 3 = topCrushedRow.recurses := by kernel_rfl
set_option maxRecDepth 100000 in
theorem topCrushed_named : Tryd.prog.varsNamed 3 = topCrushedRow.named := by kernel_rfl
set_option maxRecDepth 100000 in
theorem topCrushed_joined : joinedFacts Tryd.prog 3 Tryd.f3 topCrushedSpec topCrushedRow = true := by
  unfold joinedFacts
  rw [laidOut_, mapsRowed_, topCrushed_inPlace, topCrushed_unfollowed, topCrushed_recurses, topCrushed_named, plainKeys_, stopsHeard_, may_, lifts_, make_]
  kernel_rfl
set_option maxRecDepth 100000 in
theorem topCrushed_func : Tryd.prog.funcNamed "muscovado/muscovadotop.TopCrushed" = some 3 := by kernel_rfl
set_option maxRecDepth 100000 in
theorem topCrushed_row : TopCrushedSaid :=
  OpenClaim.holds_of_wide 3 Tryd.f3 rfl rfl rfl rfl rfl rfl rfl ⟨rfl, rfl, rfl, rfl, rfl⟩ rfl rfl rfl rfl rfl topCrushed_func Tryd.func3 topCrushed_joined
    (of_decide_eq_true (by kernel_rfl)) (by unfold Func.isWrapper; first | (rw [if_pos (by decide +kernel)]; kernel_rfl) | (rw [if_neg (by decide +kernel)]; exact ⟨rfl, rfl⟩))
    (fun os started H enc _ => topCrushed_lifted os started H enc)
theorem topCrushed_holds : TopCrushedCardSaid :=
  Claim7.holds_tied_plain_at .later [] [.handle] true (true, "780627d6a25b024967096da130e875d039bc47fadb137d147e4a14755859841b") true
    topCrushed_row (fun _ h => by cases h) (by kernel_rfl) (fun _ h => by cases h) topCrushed_row_tie rfl ⟨rfl, rfl⟩ main_ rfl
    (fun f fn hf hfn => by
      obtain rfl : f = 3 := Option.some.inj (topCrushed_func.symm.trans hf) |>.symm
      obtain rfl : fn = Tryd.f3 := (Option.some.inj (Tryd.func3.symm.trans hfn)).symm
      exact ⟨looks_.symm, fun j t ht => by
        have h3 : t = 22 := by
          rcases j with _ | j
          · exact (Option.some.inj (show some 22 = some t from ht)).symm
          · exact absurd (show (#[22] : Array Nat)[j + 1]? = some t from ht) (by simp)
        subst h3
        exact (show Tryd.prog.wantsStandIn 22 = false by kernel_rfl)⟩)
    (by kernel_rfl)
#print axioms topCrushed_holds
end Go.Proofs.YthkbagikmbcphaaDoor.N
