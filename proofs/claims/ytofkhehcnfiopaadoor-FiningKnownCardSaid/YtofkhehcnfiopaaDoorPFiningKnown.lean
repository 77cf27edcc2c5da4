/- FiningKnown returns true. On every schedule of the goroutines that the call starts. The card ties the one listed variable to the program's text. -/
import Derived.Test.YtofkhehcnfiopaaDoorSFiningKnown09
import Derived.Test.YtofkhehcnfiopaaDoorTie
import Derived.Test.YtofkhehcnfiopaaDoorCards
namespace Go.Proofs.YtofkhehcnfiopaaDoor.N
open Go Go.ChangeShapes Go.WideShapes Go.ChangeAt Go.RowKit Go.Proofs Go.Proofs.YtofkhehcnfiopaaDoor Go.Proofs.YtofkhehcnfiopaaDoor.Rows
set_option linter.unusedSectionVars false
set_option maxRecDepth 100000 in
theorem finingKnown_lifted (os : Os) (started : os.Started) (H : Type) (enc : TypeId × Value → H) :
    ReturnsInLeavingWide {} Tryd.checked os 20 .any (fun w args => (finingKnownSpec.pre enc Tryd.prog Tryd.f20 [] false w args ∧ laidMetH Tryd.prog laidL w) ∧ sizedMet enc Tryd.prog Tryd.f20 (OpenSpec.ofChange finingKnownSpec) false w args)
      (finingKnownSpec.post enc Tryd.prog Tryd.f20 false true false false) :=
  returnsInLeavingWide_of_views (C := Tryd.checked) (X := fun w _ => laidMetH Tryd.prog laidL w) (fun _ _ _ hh h => h.of_heap hh) own_ started (by kernel_rfl) Tryd.func20
    (ChangeSpec.witness_at (enc := enc) (C := Tryd.checked) (os := os) (X := fun w _ => laidMetH Tryd.prog laidL w) false (laidWorld os) #[] 8 rfl (by kernel_rfl) (by kernel_rfl) (by kernel_rfl) (by kernel_rfl) (by kernel_rfl) (laidWorld_met os _))
    (fun W base args ds gs before hval hW _ _ hL _ => none_contractV (s := finingKnownSpec) (fn := Tryd.f20) rfl rfl rfl rfl W (@FiningKnown_c (mSys Tryd.prog (Kf W.heap.size)) (rea_main W.heap.size) (seenW W) (rdy_seen W) (cell_seenW (handle_of_laid hL))) base args ds gs before hval hW)
set_option maxRecDepth 100000 in
theorem finingKnown_inPlace : Tryd.prog.inPlace 20 = finingKnownRow.inPlace := by kernel_rfl
set_option maxRecDepth 100000 in
theorem finingKnown_unfollowed : Tryd.prog.unfollowed 20 = finingKnownRow.unfollowed := by kernel_rfl
set_option maxRecDepth 100000 in
theorem finingKnown_recurses : Tryd.prog.recurses 20 = finingKnownRow.recurses := by kernel_rfl
set_option maxRecDepth 100000 in
theorem finingKnown_named : Tryd.prog.varsNamed 20 = finingKnownRow.named := by kernel_rfl
set_option maxRecDepth 100000 in
theorem finingKnown_joined : joinedFacts Tryd.prog 20 Tryd.f20 finingKnownSpec finingKnownRow = true := by
  unfold joinedFacts
  rw [laidOut_, mapsRowed_, finingKnown_inPlace, finingKnown_unfollowed, finingKnown_recurses, finingKnown_named, plainKeys_, stopsHeard_, may_, lifts_, make_]
  kernel_rfl
set_option maxRecDepth 100000 in
theorem finingKnown_goes : true = finingKnownRow.goesBy Tryd.prog := by kernel_rfl
set_option maxRecDepth 100000 in
theorem finingKnown_func : Tryd.prog.funcNamed "muscovado/muscovadolaw09.FiningKnown" = some 20 := by kernel_rfl
set_option maxRecDepth 100000 in
theorem finingKnown_row : FiningKnownSaid :=
  OpenClaim.holds_of_wide_leaving 20 Tryd.f20 rfl rfl rfl rfl rfl rfl rfl ⟨rfl, rfl, rfl, rfl, rfl⟩ rfl rfl rfl rfl rfl finingKnown_func Tryd.func20 finingKnown_joined
    (of_decide_eq_true (by kernel_rfl)) (by unfold Func.isWrapper; first | (rw [if_pos (by decide +kernel)]; kernel_rfl) | (rw [if_neg (by decide +kernel)]; exact ⟨rfl, rfl⟩))
    (fun os started H enc _ => finingKnown_lifted os started H enc)
theorem finingKnown_holds : FiningKnownCardSaid :=
  holds_tied_goes .later [.handle] true (true, "437321f70021d751b7f694fe6f46c0bce8118bd37f4e411ca5cd723b0e0592db") true true
    finingKnown_row (by kernel_rfl) finingKnown_row_tie rfl ⟨rfl, rfl⟩ main_ rfl
    (fun f fn hf hfn => by
      obtain rfl : f = 20 := Option.some.inj (finingKnown_func.symm.trans hf) |>.symm
      obtain rfl : fn = Tryd.f20 := (Option.some.inj (Tryd.func20.symm.trans hfn)).symm
      exact ⟨looks_.symm, fun j t ht => absurd (show (#[] : Array Nat)[j]? = some t from ht) (by simp)⟩)
    finingKnown_goes
#print axioms finingKnown_holds
end Go.Proofs.YtofkhehcnfiopaaDoor.N
