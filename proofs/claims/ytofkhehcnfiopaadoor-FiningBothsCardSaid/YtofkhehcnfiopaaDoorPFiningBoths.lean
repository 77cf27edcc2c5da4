/- FiningBoths returns true for every input and leaves its arguments as they were. On every schedule: the call starts no goroutine. The card ties the one listed variable to the program's text. -/
import Derived.Test.YtofkhehcnfiopaaDoorSFiningBoths09
import Derived.Test.YtofkhehcnfiopaaDoorTie
import Derived.Test.YtofkhehcnfiopaaDoorCards
namespace Go.Proofs.YtofkhehcnfiopaaDoor.N
open Go Go.ChangeShapes Go.WideShapes Go.ChangeAt Go.RowKit Go.Proofs Go.Proofs.YtofkhehcnfiopaaDoor Go.Proofs.YtofkhehcnfiopaaDoor.Rows
set_option maxRecDepth 100000 in
theorem finingBoths_contract {H : Type} {enc : TypeId × Value → H} (W : World) (base : Nat) (args : Array Value) (ds gs : List (DataW H)) (before : List MemPlace)
    (hval : ∀ (j : Nat) t v, Tryd.f3.params[j]? = some t → args[j]? = some v → Value.okWide Tryd.prog W .any base t v)
    (hW : DataW.Whole enc Tryd.prog Tryd.f3.params.toList finingBothsSpec.vars false W args.toList ds gs before) (hL : laidMetH Tryd.prog laidL W) :
    Calls Tryd.prog 3 args W fun e W' => ∃ v, e = .returned v ∧ finingBothsSpec.post enc Tryd.prog Tryd.f3 false true false false W args v W' := by
  have hp : Tryd.f3.params = #[22, 24, 25, 3, 3, 3, 25] := rfl
  have hW' := hW
  obtain ⟨p, q, hA, hV, rfl, _, _⟩ := hW
  rw [hp] at hA hval
  obtain ⟨v0, vs0, d0, ds0, p0, q0, ha, rfl, rfl, h0, hA⟩ := trodAll_cons hA
  obtain ⟨v1, vs1, d1, ds1, p1, q1, rfl, rfl, rfl, h1, hA⟩ := trodAll_cons hA
  obtain ⟨v2, vs2, d2, ds2, p2, q2, rfl, rfl, rfl, h2, hA⟩ := trodAll_cons hA
  obtain ⟨v3, vs3, d3, ds3, p3, q3, rfl, rfl, rfl, h3, hA⟩ := trodAll_cons hA
  obtain ⟨v4, vs4, d4, ds4, p4, q4, rfl, rfl, rfl, h4, hA⟩ := trodAll_cons hA
  obtain ⟨v5, vs5, d5, ds5, p5, q5, rfl, rfl, rfl, h5, hA⟩ := trodAll_cons hA
  obtain ⟨v6, vs6, d6, ds6, p6, q6, rfl, rfl, rfl, h6, hA⟩ := trodAll_cons hA
  obtain ⟨rfl, rfl, rfl⟩ := trodAll_nil hA
  obtain rfl : args = #[v0, v1, v2, v3, v4, v5, v6] := by cases args; simp_all
  obtain ⟨A0, c0, l0, rfl, hR0, hw0, hn0⟩ := slice_agents (hval 0 22 v0 rfl rfl) h0 (fun x hx => hW'.lt x (by simp [hx]))
  obtain ⟨x1, hw1, rfl⟩ := arg_agent (hval 1 24 v1 rfl rfl) h1
  obtain ⟨A2, c2, l2, rfl, hR2, hn2⟩ := slice_ints (hval 2 25 v2 rfl rfl) h2 (fun x hx => hW'.lt x (by simp [hx]))
  obtain ⟨n3, rfl, _, _, hv3⟩ := open_int und3_ (hval 3 3 v3 rfl rfl) h3
  obtain ⟨n4, rfl, _, _, hv4⟩ := open_int und3_ (hval 4 3 v4 rfl rfl) h4
  obtain ⟨n5, rfl, _, _, hv5⟩ := open_int und3_ (hval 5 3 v5 rfl rfl) h5
  obtain ⟨A6, c6, l6, rfl, hR6, hn6⟩ := slice_ints (hval 6 25 v6 rfl rfl) h6 (fun x hx => hW'.lt x (by simp [hx]))
  refine grown_post (s := finingBothsSpec) (fn := Tryd.f3) rfl rfl (fun t ht => ?_) rfl hW' (FiningBoths_c A0 c0 l0 x1 A2 c2 l2 n3 n4 n5 A6 c6 l6 hw0 hw1 hn0 hn2 W hR0 hR2 hR6)
  rw [hp] at ht
  have ht' : t = 22 ∨ t = 24 ∨ t = 25 ∨ t = 3 ∨ t = 25 := by simpa using ht
  rcases ht' with rfl | rfl | rfl | rfl | rfl
  · exact read22_
  · exact read24_
  · exact read25b_
  · exact read3_
  · exact read25b_
set_option maxRecDepth 100000 in
theorem finingBoths_lifted (os : Os) (started : os.Started) (H : Type) (enc : TypeId × Value → H) :
    ReturnsInLeavingWide {} Tryd.checked os 3 .any (fun w args => (finingBothsSpec.pre enc Tryd.prog Tryd.f3 [] false w args ∧ laidMetH Tryd.prog laidL w) ∧ sizedMet enc Tryd.prog Tryd.f3 (OpenSpec.ofChange finingBothsSpec) false w args)
      (finingBothsSpec.post enc Tryd.prog Tryd.f3 false true false false) :=
  returnsInLeavingWide_of_change_and (C := Tryd.checked) (X := fun w _ => laidMetH Tryd.prog laidL w) (fun _ _ _ hh h => h.of_heap hh) own_ started (by kernel_rfl) Tryd.func3
    (ChangeSpec.witness_at (enc := enc) (C := Tryd.checked) (os := os) (X := fun w _ => laidMetH Tryd.prog laidL w) false (laidWorld os) #[.slice Option.none 0 0, .agg #[.int .i64 0, .int .i64 0, .int .i64 0, .int .i64 0, .int .i64 0], .slice Option.none 0 0, .int .i64 0, .int .i64 0, .int .i64 0, .slice Option.none 0 0] 8 rfl (by kernel_rfl) (by kernel_rfl) (by kernel_rfl) (by kernel_rfl) (by kernel_rfl) (laidWorld_met os _))
    (fun W base args ds gs before hval hW _ _ hL _ => finingBoths_contract W base args ds gs before hval hW hL)
set_option maxRecDepth 100000 in
theorem finingBoths_inPlace : Tryd.prog.inPlace 3 = finingBothsRow.inPlace := by kernel_rfl
set_option maxRecDepth 100000 in
theorem finingBoths_unfollowed : Tryd.prog.unfollowed 3 = finingBothsRow.unfollowed := by kernel_rfl
set_option maxRecDepth 100000 in
theorem finingBoths_recurses : Tryd.prog.recurses 3 = finingBothsRow.recurses := by kernel_rfl
set_option maxRecDepth 100000 in
theorem finingBoths_named : Tryd.prog.varsNamed 3 = finingBothsRow.named := by kernel_rfl
set_option maxRecDepth 100000 in
theorem finingBoths_joined : joinedFacts Tryd.prog 3 Tryd.f3 finingBothsSpec finingBothsRow = true := by
  unfold joinedFacts
  rw [laidOut_, mapsRowed_, finingBoths_inPlace, finingBoths_unfollowed, finingBoths_recurses, finingBoths_named, plainKeys_, stopsHeard_, may_, lifts_, make_]
  kernel_rfl
set_option maxRecDepth 100000 in
theorem finingBoths_goes : true = finingBothsRow.goesBy Tryd.prog := by kernel_rfl
set_option maxRecDepth 100000 in
theorem finingBoths_func : Tryd.prog.funcNamed "muscovado/muscovadolaw09.FiningBoths" = some 3 := by kernel_rfl
set_option maxRecDepth 100000 in
theorem finingBoths_row : FiningBothsSaid :=
  OpenClaim.holds_of_wide_leaving 3 Tryd.f3 rfl rfl rfl rfl rfl rfl rfl ⟨rfl, rfl, rfl, rfl, rfl⟩ rfl rfl rfl rfl rfl finingBoths_func Tryd.func3 finingBoths_joined
    (of_decide_eq_true (by kernel_rfl)) (by unfold Func.isWrapper; first | (rw [if_pos (by decide +kernel)]; kernel_rfl) | (rw [if_neg (by decide +kernel)]; exact ⟨rfl, rfl⟩))
    (fun os started H enc _ => finingBoths_lifted os started H enc)
theorem finingBoths_holds : FiningBothsCardSaid :=
  holds_tied_goes .later [.handle] true (true, "437321f70021d751b7f694fe6f46c0bce8118bd37f4e411ca5cd723b0e0592db") true true
    finingBoths_row (by kernel_rfl) finingBoths_row_tie rfl ⟨rfl, rfl⟩ main_ rfl
    (fun f fn hf hfn => by
      obtain rfl : f = 3 := Option.some.inj (finingBoths_func.symm.trans hf) |>.symm
      obtain rfl : fn = Tryd.f3 := (Option.some.inj (Tryd.func3.symm.trans hfn)).symm
      exact ⟨looks_.symm, fun j t ht => by
          rcases j with _ | j
          · obtain rfl : t = 22 := (Option.some.inj (show some 22 = some t from ht)).symm
            exact (show Tryd.prog.wantsStandIn 22 = false by kernel_rfl)
          rcases j with _ | j
          · obtain rfl : t = 24 := (Option.some.inj (show some 24 = some t from ht)).symm
            exact (show Tryd.prog.wantsStandIn 24 = false by kernel_rfl)
          rcases j with _ | j
          · obtain rfl : t = 25 := (Option.some.inj (show some 25 = some t from ht)).symm
            exact (show Tryd.prog.wantsStandIn 25 = false by kernel_rfl)
          rcases j with _ | j
          · obtain rfl : t = 3 := (Option.some.inj (show some 3 = some t from ht)).symm
            exact (show Tryd.prog.wantsStandIn 3 = false by kernel_rfl)
          rcases j with _ | j
          · obtain rfl : t = 3 := (Option.some.inj (show some 3 = some t from ht)).symm
            exact (show Tryd.prog.wantsStandIn 3 = false by kernel_rfl)
          rcases j with _ | j
          · obtain rfl : t = 3 := (Option.some.inj (show some 3 = some t from ht)).symm
            exact (show Tryd.prog.wantsStandIn 3 = false by kernel_rfl)
          rcases j with _ | j
          · obtain rfl : t = 25 := (Option.some.inj (show some 25 = some t from ht)).symm
            exact (show Tryd.prog.wantsStandIn 25 = false by kernel_rfl)
          exact absurd (show (#[22, 24, 25, 3, 3, 3, 25] : Array Nat)[j + 7]? = some t from ht) (by simp)⟩)
    finingBoths_goes
#print axioms finingBoths_holds
end Go.Proofs.YtofkhehcnfiopaaDoor.N
