/- CharFails returns true for every input and leaves its arguments as they were, on every schedule of the goroutines that its calls start. -/
import Derived.Test.YteppiphdbondeaaGreatSCharFails10
namespace Go.Proofs.YteppiphdbondeaaGreat.N
open Go Go.ChangeShapes Go.WideShapes Go.ChangeAt Go.RowKit Go.Proofs Go.Proofs.YteppiphdbondeaaGreat Go.Proofs.YteppiphdbondeaaGreat.Rows
set_option linter.unusedSectionVars false
set_option maxRecDepth 100000 in
theorem charFails_contract {H : Type} {enc : TypeId × Value → H} (W : World) (base : Nat) (args : Array Value) (ds gs : List (DataW H)) (before : List MemPlace)
    (hval : ∀ (j : Nat) t v, Tryz.f7.params[j]? = some t → args[j]? = some v → Value.okWide Tryz.prog W .any base t v)
    (hW : DataW.Whole enc Tryz.prog Tryz.f7.params.toList charFailsSpec.vars false W args.toList ds gs before) :
    @Calls Tryz.prog (ZS W) 7 args (seenZ W) fun e v' => ∃ x, e = .returned x ∧ Below (seenZ W).heap.size (seenZ W) v' ∧ ∀ W', Below W.heap.size W W' → charFailsSpec.post enc Tryz.prog Tryz.f7 false true false false W args x W' := by
  have hp : Tryz.f7.params = #[25, 27, 3, 23] := rfl
  have hW' := hW
  obtain ⟨p, q, hA, hV, rfl, _, _⟩ := hW
  rw [hp] at hA hval
  obtain ⟨v0, vs0, d0, ds0, p0, q0, ha, rfl, rfl, h0, hA⟩ := trodAll_cons hA
  obtain ⟨v1, vs1, d1, ds1, p1, q1, rfl, rfl, rfl, h1, hA⟩ := trodAll_cons hA
  obtain ⟨v2, vs2, d2, ds2, p2, q2, rfl, rfl, rfl, h2, hA⟩ := trodAll_cons hA
  obtain ⟨v3, vs3, d3, ds3, p3, q3, rfl, rfl, rfl, h3, hA⟩ := trodAll_cons hA
  obtain ⟨rfl, rfl, rfl⟩ := trodAll_nil hA
  obtain rfl : args = #[v0, v1, v2, v3] := by cases args; simp_all
  obtain ⟨x0, rfl, hR0, hw0, hn0, hm0⟩ := zXb (hval 0 25 v0 rfl rfl) h0 (fun x hx => hW'.lt x (by simp [hx]))
  obtain ⟨x1, hw1, rfl⟩ := jA0 (hval 1 27 v1 rfl rfl) h1
  obtain ⟨n2, rfl, _, _, hv2⟩ := open_int zM1 (hval 2 3 v2 rfl rfl) h2
  obtain ⟨A3, c3, l3, rfl, hR3, hn3⟩ := zWc (hval 3 23 v3 rfl rfl) h3 (fun x hx => hW'.lt x (by simp [hx]))
  refine zPw (s := charFailsSpec) (fn := Tryz.f7) rfl rfl (fun t ht => ?_) rfl hW' (@zQh (ZS W) (reaC_main W.heap.size) x0.fA x0.dA A3 x0.fc x0.dc c3 x0.fz x0.kz n2 x1.power x1.gain x1.now x1.washed x0.dz l3 hn0 hm0 hw0 hw1 (seenZ W) (zIr hR0.f) (zIr hR0.d) (zIr hR3) (zXm W))
  rw [hp] at ht
  simp only [List.mem_cons, List.not_mem_nil, or_false] at ht
  rcases ht with rfl | rfl | rfl | rfl
  · exact zV5
  · exact zXo
  · exact jCb
  · exact zUs
set_option maxRecDepth 100000 in
theorem charFails_lifted (os : Os) (started : os.Started) (H : Type) (enc : TypeId × Value → H) :
    ReturnsInLeavingWide {} Tryz.checked os 7 .any (charFailsSpec.pre6 enc Tryz.prog Tryz.f7 charFailsRow.domain false) (charFailsSpec.post enc Tryz.prog Tryz.f7 false true false false) :=
  zBb (C := Tryz.checked) 158 msgM own_ started (by kernel_rfl) Tryz.func7
    (ChangeSpec.witness6 (enc := enc) (C := Tryz.checked) false ⟨#[], #[.agg #[.slice Option.none 0 0, .int .i64 0, .slice Option.none 0 0], .agg #[.int .i64 0, .int .i64 0, .int .i64 0, .bool false], .int .i64 0, .slice Option.none 0 0], []⟩ 8 (by kernel_rfl) (by kernel_rfl) (by kernel_rfl) (by kernel_rfl))
    (fun W base args ds gs before hval hW _ _ _ => charFails_contract W base args ds gs before hval hW)
set_option maxRecDepth 100000 in
theorem charFails_inPlace : Tryz.prog.inPlace 7 = charFailsRow.inPlace := by kernel_rfl
set_option maxRecDepth 100000 in
theorem charFails_unfollowed : Tryz.prog.unfollowed 7 = charFailsRow.unfollowed := by kernel_rfl
set_option maxRecDepth 100000 in
theorem charFails_recurses : Tryz.prog.recurses 7 = charFailsRow.recurses := by kernel_rfl
set_option maxRecDepth 100000 in
theorem charFails_named : Tryz.prog.varsNamed 7 = charFailsRow.named := by kernel_rfl
set_option maxRecDepth 100000 in
theorem charFails_joined : joinedFacts Tryz.prog 7 Tryz.f7 charFailsSpec charFailsRow = true := by
  unfold joinedFacts
  rw [zM9, zR6, charFails_inPlace, charFails_unfollowed, charFails_recurses, charFails_named, zS4, zP8, may_, jBk, jD4]
  kernel_rfl
set_option maxRecDepth 100000 in
theorem charFails_func : Tryz.prog.funcNamed "muscovado/muscovadolaw04.CharFails" = some 7 := by kernel_rfl
set_option maxRecDepth 100000 in
theorem charFails_holds : CharFailsSaid :=
  OpenClaim.holds_of_wide_leaving 7 Tryz.f7 rfl rfl rfl rfl rfl rfl rfl ⟨rfl, rfl, rfl, rfl, rfl⟩ rfl rfl rfl rfl rfl charFails_func Tryz.func7 charFails_joined
    (of_decide_eq_true (by kernel_rfl)) (by unfold Func.isWrapper; first | (rw [if_pos (by decide +kernel)]; kernel_rfl) | (rw [if_neg (by decide +kernel)]; exact ⟨rfl, rfl⟩))
    (fun os started H enc _ => charFails_lifted os started H enc)
#print axioms charFails_holds
end Go.Proofs.YteppiphdbondeaaGreat.N
