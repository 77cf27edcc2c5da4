/- CharFewests returns true for every input and leaves its arguments as they were, on every schedule of the goroutines that its calls start. -/
import Derived.Test.YteppiphdbondeaaGreatSCharFewests11
namespace Go.Proofs.YteppiphdbondeaaGreat.N
open Go Go.ChangeShapes Go.WideShapes Go.ChangeAt Go.RowKit Go.Proofs Go.Proofs.YteppiphdbondeaaGreat Go.Proofs.YteppiphdbondeaaGreat.Rows
set_option linter.unusedSectionVars false
set_option maxRecDepth 100000 in
theorem charFewests_contract {H : Type} {enc : TypeId × Value → H} (W : World) (base : Nat) (args : Array Value) (ds gs : List (DataW H)) (before : List MemPlace)
    (hval : ∀ (j : Nat) t v, Tryz.f3.params[j]? = some t → args[j]? = some v → Value.okWide Tryz.prog W .any base t v)
    (hW : DataW.Whole enc Tryz.prog Tryz.f3.params.toList charFewestsSpec.vars false W args.toList ds gs before) :
    @Calls Tryz.prog (ZS W) 3 args (seenZ W) fun e v' => ∃ x, e = .returned x ∧ Below (seenZ W).heap.size (seenZ W) v' ∧ ∀ W', Below W.heap.size W W' → charFewestsSpec.post enc Tryz.prog Tryz.f3 false true false false W args x W' := by
  have hp : Tryz.f3.params = #[25, 27, 3, 23] := rfl
  have hW' := hW
  obtain ⟨p, q, hA, hV, rfl, _, _⟩ := hW
  rw [hp] at hA hval
  obtain ⟨v0, vs0, d0, ds0, p0, q0, ha, rfl, rfl, h0, hA⟩ := trodAll_cons hA
  obtain ⟨v1, vs1, d1, ds1, p1, q1, rfl, rfl, rfl, h1, hA⟩ := trodAll_cons hA
  obtain ⟨v2, vs2, d2, ds2, p2, q2, rfl, rfl, rfl, h2, hA⟩ := trodAll_cons hA
  obtain ⟨v3, vs3, d3, ds3, p3, q3, rfl, rfl, rfl, h3, hA⟩ := trodAll_cons hA
  obtain ⟨rfl, rfl, rfl⟩ := trodAll_nil hA
  obtain rfl : args = #[v0, v1, v2, v3] := by cases args; simp_all
  obtain ⟨x0, rfl, hR0, hw0, hn0, hm0⟩ := zW2 (hval 0 25 v0 rfl rfl) h0 (fun x hx => hW'.lt x (by simp [hx]))
  obtain ⟨x1, hw1, rfl⟩ := jAq (hval 1 27 v1 rfl rfl) h1
  obtain ⟨n2, rfl, _, _, hv2⟩ := open_int zNd (hval 2 3 v2 rfl rfl) h2
  obtain ⟨A3, c3, l3, rfl, hR3, hn3⟩ := zV8 (hval 3 23 v3 rfl rfl) h3 (fun x hx => hW'.lt x (by simp [hx]))
  refine zQk (s := charFewestsSpec) (fn := Tryz.f3) rfl rfl (fun t ht => ?_) rfl hW' (@zM3 (ZS W) (reaC_main W.heap.size) x0.fA x0.dA A3 x0.fc x0.dc c3 x0.fz x0.kz n2 x1.power x1.gain x1.now x1.washed x0.dz l3 hn0 hm0 hw0 hw1 (seenZ W) (zIq hR0.f) (zIq hR0.d) (zIq hR3) (zYc W))
  rw [hp] at ht
  simp only [List.mem_cons, List.not_mem_nil, or_false] at ht
  rcases ht with rfl | rfl | rfl | rfl
  · exact zWq
  · exact zWv
  · exact jB0
  · exact zTv
set_option maxRecDepth 100000 in
theorem charFewests_lifted (os : Os) (started : os.Started) (H : Type) (enc : TypeId × Value → H) :
    ReturnsInLeavingWide {} Tryz.checked os 3 .any (charFewestsSpec.pre6 enc Tryz.prog Tryz.f3 charFewestsRow.domain false) (charFewestsSpec.post enc Tryz.prog Tryz.f3 false true false false) :=
  zBx (C := Tryz.checked) 158 msgM own_ started (by kernel_rfl) Tryz.func3
    (ChangeSpec.witness6 (enc := enc) (C := Tryz.checked) false ⟨#[], #[.agg #[.slice Option.none 0 0, .int .i64 0, .slice Option.none 0 0], .agg #[.int .i64 0, .int .i64 0, .int .i64 0, .bool false], .int .i64 0, .slice Option.none 0 0], []⟩ 8 (by kernel_rfl) (by kernel_rfl) (by kernel_rfl) (by kernel_rfl))
    (fun W base args ds gs before hval hW _ _ _ => charFewests_contract W base args ds gs before hval hW)
set_option maxRecDepth 100000 in
theorem charFewests_inPlace : Tryz.prog.inPlace 3 = charFewestsRow.inPlace := by kernel_rfl
set_option maxRecDepth 100000 in
theorem charFewests_unfollowed : Tryz.prog.unfollowed 3 = charFewestsRow.unfollowed := by kernel_rfl
set_option maxRecDepth 100000 in
theorem charFewests_recurses : Tryz.prog.recurses 3 = charFewestsRow.recurses := by kernel_rfl
set_option maxRecDepth 100000 in
theorem charFewests_named : Tryz.prog.varsNamed 3 = charFewestsRow.named := by kernel_rfl
set_option maxRecDepth 100000 in
theorem charFewests_joined : joinedFacts Tryz.prog 3 Tryz.f3 charFewestsSpec charFewestsRow = true := by
  unfold joinedFacts
  rw [zOe, zSv, charFewests_inPlace, charFewests_unfollowed, charFewests_recurses, charFewests_named, zS8, zQr, may_, jBo, jD8]
  kernel_rfl
set_option maxRecDepth 100000 in
theorem charFewests_func : Tryz.prog.funcNamed "muscovado/muscovadolaw04.CharFewests" = some 3 := by kernel_rfl
set_option maxRecDepth 100000 in
theorem charFewests_holds : CharFewestsSaid :=
  OpenClaim.holds_of_wide_leaving 3 Tryz.f3 rfl rfl rfl rfl rfl rfl rfl ⟨rfl, rfl, rfl, rfl, rfl⟩ rfl rfl rfl rfl rfl charFewests_func Tryz.func3 charFewests_joined
    (of_decide_eq_true (by kernel_rfl)) (by unfold Func.isWrapper; first | (rw [if_pos (by decide +kernel)]; kernel_rfl) | (rw [if_neg (by decide +kernel)]; exact ⟨rfl, rfl⟩))
    (fun os started H enc _ => charFewests_lifted os started H enc)
#print axioms charFewests_holds
end Go.Proofs.YteppiphdbondeaaGreat.N
