/- FiningFaults returns true for every list of numbers and leaves its argument as it was. On every schedule of the goroutines that the call starts. The card ties the one listed variable to the program's text. -/
import Derived.Test.YtofkhehcnfiopaaDoorSFiningFaults10
import Derived.Test.YtofkhehcnfiopaaDoorTie
import Derived.Test.YtofkhehcnfiopaaDoorCards
namespace Go.Proofs.YtofkhehcnfiopaaDoor.N
open Go Go.ChangeShapes Go.WideShapes Go.ChangeAt Go.RowKit Go.Proofs Go.Proofs.YtofkhehcnfiopaaDoor Go.Proofs.YtofkhehcnfiopaaDoor.Rows
set_option linter.unusedSectionVars false
set_option maxRecDepth 100000 in
theorem finingFaults_lifted (os : Os) (started : os.Started) (H : Type) (enc : TypeId × Value → H) :
    ReturnsInLeavingWide {} Tryd.checked os 17 .any (fun w args => (finingFaultsSpec.pre enc Tryd.prog Tryd.f17 [] false w args ∧ laidMetH Tryd.prog laidL w) ∧ sizedMet enc Tryd.prog Tryd.f17 (OpenSpec.ofChange finingFaultsSpec) false w args)
      (finingFaultsSpec.post enc Tryd.prog Tryd.f17 false true false false) :=
  returnsInLeavingWide_of_views (C := Tryd.checked) (X := fun w _ => laidMetH Tryd.prog laidL w) (fun _ _ _ hh h => h.of_heap hh) own_ started (by kernel_rfl) Tryd.func17
    (ChangeSpec.witness_at (enc := enc) (C := Tryd.checked) (os := os) (X := fun w _ => laidMetH Tryd.prog laidL w) false (laidWorld os) #[.slice Option.none 0 0] 8 rfl (by kernel_rfl) (by kernel_rfl) (by kernel_rfl) (by kernel_rfl) (by kernel_rfl) (laidWorld_met os _))
    (fun W base args ds gs before hval hW _ _ _ _ => ints_contractV (s := finingFaultsSpec) (fn := Tryd.f17) rfl rfl rfl (fun _ => rfl) W (fun nA nc nums hN => @FiningFaults_c (mSys Tryd.prog (Kf W.heap.size)) (rea_main W.heap.size) nA nc nums (seenW W) hN (rdy_seen W)) base args ds gs before hval hW)
set_option maxRecDepth 100000 in
theorem finingFaults_inPlace : Tryd.prog.inPlace 17 = finingFaultsRow.inPlace := by kernel_rfl
set_option maxRecDepth 100000 in
theorem finingFaults_unfollowed : Tryd.prog.unfollowed 17 = finingFaultsRow.unfollowed := by kernel_rfl
set_option maxRecDepth 100000 in
theorem finingFaults_recurses : Tryd.prog.recurses 17 = finingFaultsRow.recurses := by kernel_rfl
set_option maxRecDepth 100000 in
theorem finingFaults_named : Tryd.prog.varsNamed 17 = finingFaultsRow.named := by kernel_rfl
set_option maxRecDepth 100000 in
theorem finingFaults_joined : joinedFacts Tryd.prog 17 Tryd.f17 finingFaultsSpec finingFaultsRow = true := by
  unfold joinedFacts
  rw [laidOut_, mapsRowed_, finingFaults_inPlace, finingFaults_unfollowed, finingFaults_recurses, finingFaults_named, plainKeys_, stopsHeard_, may_, lifts_, make_]
  kernel_rfl
set_option maxRecDepth 100000 in
theorem finingFaults_goes : true = finingFaultsRow.goesBy Tryd.prog := by kernel_rfl
set_option maxRecDepth 100000 in
theorem finingFaults_func : Tryd.prog.funcNamed "muscovado/muscovadolaw09.FiningFaults" = some 17 := by kernel_rfl
set_option maxRecDepth 100000 in
theorem finingFaults_row : FiningFaultsSaid :=
  OpenClaim.holds_of_wide_leaving 17 Tryd.f17 rfl rfl rfl rfl rfl rfl rfl ⟨rfl, rfl, rfl, rfl, rfl⟩ rfl rfl rfl rfl rfl finingFaults_func Tryd.func17 finingFaults_joined
    (of_decide_eq_true (by kernel_rfl)) (by unfold Func.isWrapper; first | (rw [if_pos (by decide +kernel)]; kernel_rfl) | (rw [if_neg (by decide +kernel)]; exact ⟨rfl, rfl⟩))
    (fun os started H enc _ => finingFaults_lifted os started H enc)
theorem finingFaults_holds : FiningFaultsCardSaid :=
  holds_tied_goes .later [.handle] true (true, "437321f70021d751b7f694fe6f46c0bce8118bd37f4e411ca5cd723b0e0592db") true true
    finingFaults_row (by kernel_rfl) finingFaults_row_tie rfl ⟨rfl, rfl⟩ main_ rfl
    (fun f fn hf hfn => by
      obtain rfl : f = 17 := Option.some.inj (finingFaults_func.symm.trans hf) |>.symm
      obtain rfl : fn = Tryd.f17 := (Option.some.inj (Tryd.func17.symm.trans hfn)).symm
      exact ⟨looks_.symm, fun j t ht => by
        have h3 : t = 25 := by
          rcases j with _ | j
          · exact (Option.some.inj (show some 25 = some t from ht)).symm
          · exact absurd (show (#[25] : Array Nat)[j + 1]? = some t from ht) (by simp)
        subst h3
        exact (show Tryd.prog.wantsStandIn 25 = false by kernel_rfl)⟩)
    finingFaults_goes
#print axioms finingFaults_holds
end Go.Proofs.YtofkhehcnfiopaaDoor.N
