/- FiningWays returns true for every input and leaves its arguments as they were. On every schedule of the goroutines that the call starts. The card ties the one listed variable to the program's text. -/
import Derived.Test.YtofkhehcnfiopaaDoorSFiningWays10
import Derived.Test.YtofkhehcnfiopaaDoorTie
import Derived.Test.YtofkhehcnfiopaaDoorCards
namespace Go.Proofs.YtofkhehcnfiopaaDoor.N
open Go Go.ChangeShapes Go.WideShapes Go.ChangeAt Go.RowKit Go.Proofs Go.Proofs.YtofkhehcnfiopaaDoor Go.Proofs.YtofkhehcnfiopaaDoor.Rows
set_option linter.unusedSectionVars false
set_option maxRecDepth 100000 in
theorem finingWays_contract {H : Type} {enc : TypeId × Value → H} (W : World) (base : Nat) (args : Array Value) (ds gs : List (DataW H)) (before : List MemPlace)
    (hval : ∀ (j : Nat) t v, Tryd.f13.params[j]? = some t → args[j]? = some v → Value.okWide Tryd.prog W .any base t v)
    (hW : DataW.Whole enc Tryd.prog Tryd.f13.params.toList finingWaysSpec.vars false W args.toList ds gs before) (_hL : laidMetH Tryd.prog laidL W) :
    ∃ K : Prot, K.low = W.heap.size ∧ @Calls Tryd.prog (mSys Tryd.prog K) 13 args (seenW W) fun e v' => ∃ x, e = .returned x ∧ Below (seenW W).heap.size (seenW W) v' ∧ ∀ W', Below W.heap.size W W' → finingWaysSpec.post enc Tryd.prog Tryd.f13 false true false false W args x W' := by
  have hp : Tryd.f13.params = #[22, 24, 3, 3, 25] := rfl
  have hW' := hW
  obtain ⟨p, q, hA, hV, rfl, _, _⟩ := hW
  rw [hp] at hA hval
  obtain ⟨v0, vs0, d0, ds0, p0, q0, ha, rfl, rfl, h0, hA⟩ := trodAll_cons hA
  obtain ⟨v1, vs1, d1, ds1, p1, q1, rfl, rfl, rfl, h1, hA⟩ := trodAll_cons hA
  obtain ⟨v2, vs2, d2, ds2, p2, q2, rfl, rfl, rfl, h2, hA⟩ := trodAll_cons hA
  obtain ⟨v3, vs3, d3, ds3, p3, q3, rfl, rfl, rfl, h3, hA⟩ := trodAll_cons hA
  obtain ⟨v4, vs4, d4, ds4, p4, q4, rfl, rfl, rfl, h4, hA⟩ := trodAll_cons hA
  obtain ⟨rfl, rfl, rfl⟩ := trodAll_nil hA
  obtain rfl : args = #[v0, v1, v2, v3, v4] := by cases args; simp_all
  obtain ⟨A0, c0, l0, rfl, hR0, hw0, hn0⟩ := slice_agents (hval 0 22 v0 rfl rfl) h0 (fun x hx => hW'.lt x (by simp [hx]))
  obtain ⟨x1, hw1, rfl⟩ := arg_agent (hval 1 24 v1 rfl rfl) h1
  obtain ⟨n2, rfl, _, _, hv2⟩ := open_int und3_ (hval 2 3 v2 rfl rfl) h2
  obtain ⟨n3, rfl, _, _, hv3⟩ := open_int und3_ (hval 3 3 v3 rfl rfl) h3
  obtain ⟨A4, c4, l4, rfl, hR4, hn4⟩ := slice_ints (hval 4 25 v4 rfl rfl) h4 (fun x hx => hW'.lt x (by simp [hx]))
  refine grown_postV (s := finingWaysSpec) (fn := Tryd.f13) rfl rfl (fun t ht => ?_) rfl hW' (@FiningWays_c (mSys Tryd.prog (Kf W.heap.size)) (rea_main W.heap.size) A0 c0 l0 x1 n2 n3 A4 c4 l4 hw0 hw1 hn0 (seenW W) (rdl_seen hR0) (rdl_seen hR4) (rdy_seen W))
  rw [hp] at ht
  have ht' : t = 22 ∨ t = 24 ∨ t = 3 ∨ t = 25 := by simpa using ht
  rcases ht' with rfl | rfl | rfl | rfl
  · exact read22_
  · exact read24_
  · exact read3_
  · exact read25b_
set_option maxRecDepth 100000 in
theorem finingWays_lifted (os : Os) (started : os.Started) (H : Type) (enc : TypeId × Value → H) :
    ReturnsInLeavingWide {} Tryd.checked os 13 .any (fun w args => (finingWaysSpec.pre enc Tryd.prog Tryd.f13 [] false w args ∧ laidMetH Tryd.prog laidL w) ∧ sizedMet enc Tryd.prog Tryd.f13 (OpenSpec.ofChange finingWaysSpec) false w args)
      (finingWaysSpec.post enc Tryd.prog Tryd.f13 false true false false) :=
  returnsInLeavingWide_of_views (C := Tryd.checked) (X := fun w _ => laidMetH Tryd.prog laidL w) (fun _ _ _ hh h => h.of_heap hh) own_ started (by kernel_rfl) Tryd.func13
    (ChangeSpec.witness_at (enc := enc) (C := Tryd.checked) (os := os) (X := fun w _ => laidMetH Tryd.prog laidL w) false (laidWorld os) #[.slice Option.none 0 0, .agg #[.int .i64 0, .int .i64 0, .int .i64 0, .int .i64 0, .int .i64 0], .int .i64 0, .int .i64 0, .slice Option.none 0 0] 8 rfl (by kernel_rfl) (by kernel_rfl) (by kernel_rfl) (by kernel_rfl) (by kernel_rfl) (laidWorld_met os _))
    (fun W base args ds gs before hval hW _ _ hL _ => finingWays_contract W base args ds gs before hval hW hL)
set_option maxRecDepth 100000 in
theorem finingWays_inPlace : Tryd.prog.inPlace 13 = finingWaysRow.inPlace := by kernel_rfl
set_option maxRecDepth 100000 in
theorem finingWays_unfollowed : Tryd.prog.unfollowed 13 = finingWaysRow.unfollowed := by kernel_rfl
set_option maxRecDepth 100000 in
theorem finingWays_recurses : Tryd.prog.recurses 13 = finingWaysRow.recurses := by kernel_rfl
set_option maxRecDepth 100000 in
theorem finingWays_named : Tryd.prog.varsNamed 13 = finingWaysRow.named := by kernel_rfl
set_option maxRecDepth 100000 in
theorem finingWays_joined : joinedFacts Tryd.prog 13 Tryd.f13 finingWaysSpec finingWaysRow = true := by
  unfold joinedFacts
  rw [laidOut_, mapsRowed_, finingWays_inPlace, finingWays_unfollowed, finingWays_recurses, finingWays_named, plainKeys_, stopsHeard_, may_, lifts_, make_]
  kernel_rfl
set_option maxRecDepth 100000 in
theorem finingWays_goes : true = finingWaysRow.goesBy Tryd.prog := by kernel_rfl
set_option maxRecDepth 100000 in
theorem finingWays_func : Tryd.prog.funcNamed "muscovado/muscovadolaw09.FiningWays" = some 13 := by kernel_rfl
set_option maxRecDepth 100000 in
theorem finingWays_row : FiningWaysSaid :=
  OpenClaim.holds_of_wide_leaving 13 Tryd.f13 rfl rfl rfl rfl rfl rfl rfl ⟨rfl, rfl, rfl, rfl, rfl⟩ rfl rfl rfl rfl rfl finingWays_func Tryd.func13 finingWays_joined
    (of_decide_eq_true (by kernel_rfl)) (by unfold Func.isWrapper; first | (rw [if_pos (by decide +kernel)]; kernel_rfl) | (rw [if_neg (by decide +kernel)]; exact ⟨rfl, rfl⟩))
    (fun os started H enc _ => finingWays_lifted os started H enc)
theorem finingWays_holds : FiningWaysCardSaid :=
  holds_tied_goes .later [.handle] true (true, "437321f70021d751b7f694fe6f46c0bce8118bd37f4e411ca5cd723b0e0592db") true true
    finingWays_row (by kernel_rfl) finingWays_row_tie rfl ⟨rfl, rfl⟩ main_ rfl
    (fun f fn hf hfn => by
      obtain rfl : f = 13 := Option.some.inj (finingWays_func.symm.trans hf) |>.symm
      obtain rfl : fn = Tryd.f13 := (Option.some.inj (Tryd.func13.symm.trans hfn)).symm
      exact ⟨looks_.symm, fun j t ht => by
          rcases j with _ | j
          · obtain rfl : t = 22 := (Option.some.inj (show some 22 = some t from ht)).symm
            exact (show Tryd.prog.wantsStandIn 22 = false by kernel_rfl)
          rcases j with _ | j
          · obtain rfl : t = 24 := (Option.some.inj (show some 24 = some t from ht)).symm
            exact (show Tryd.prog.wantsStandIn 24 = false by kernel_rfl)
          rcases j with _ | j
          · obtain rfl : t = 3 := (Option.some.inj (show some 3 = some t from ht)).symm
            exact (show Tryd.prog.wantsStandIn 3 = false by kernel_rfl)
          rcases j with _ | j
          · obtain rfl : t = 3 := (Option.some.inj (show some 3 = some t from ht)).symm
            exact (show Tryd.prog.wantsStandIn 3 = false by kernel_rfl)
          rcases j with _ | j
          · obtain rfl : t = 25 := (Option.some.inj (show some 25 = some t from ht)).symm
            exact (show Tryd.prog.wantsStandIn 25 = false by kernel_rfl)
          exact absurd (show (#[22, 24, 3, 3, 25] : Array Nat)[j + 5]? = some t from ht) (by simp)⟩)
    finingWays_goes
#print axioms finingWays_holds
end Go.Proofs.YtofkhehcnfiopaaDoor.N
