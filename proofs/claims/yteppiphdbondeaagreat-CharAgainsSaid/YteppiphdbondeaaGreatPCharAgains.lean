/- CharAgains returns true for every input and leaves its arguments as they were, on every schedule of the goroutines that its calls start. -/
import Derived.Test.YteppiphdbondeaaGreatSCharAgains11
import Derived.Test.YteppiphdbondeaaGreatSCharAgains12
namespace Go.Proofs.YteppiphdbondeaaGreat.N
open Go Go.ChangeShapes Go.WideShapes Go.ChangeAt Go.RowKit Go.Proofs Go.Proofs.YteppiphdbondeaaGreat Go.Proofs.YteppiphdbondeaaGreat.Rows
set_option linter.unusedSectionVars false
set_option maxRecDepth 100000 in
theorem charAgains_contract {H : Type} {enc : TypeId × Value → H} (W : World) (base : Nat) (args : Array Value) (ds gs : List (DataW H)) (before : List MemPlace)
    (hval : ∀ (j : Nat) t v, Tryz.f5.params[j]? = some t → args[j]? = some v → Value.okWide Tryz.prog W .any base t v)
    (hW : DataW.Whole enc Tryz.prog Tryz.f5.params.toList charAgainsSpec.vars false W args.toList ds gs before) :
    @Calls Tryz.prog (ZS W) 5 args (seenZ W) fun e v' => ∃ x, e = .returned x ∧ Below (seenZ W).heap.size (seenZ W) v' ∧ ∀ W', Below W.heap.size W W' → charAgainsSpec.post enc Tryz.prog Tryz.f5 false true false false W args x W' := by
  have hp : Tryz.f5.params = #[25, 27, 3, 3, 3, 23] := rfl
  have hW' := hW
  obtain ⟨p, q, hA, hV, rfl, _, _⟩ := hW
  rw [hp] at hA hval
  obtain ⟨v0, vs0, d0, ds0, p0, q0, ha, rfl, rfl, h0, hA⟩ := trodAll_cons hA
  obtain ⟨v1, vs1, d1, ds1, p1, q1, rfl, rfl, rfl, h1, hA⟩ := trodAll_cons hA
  obtain ⟨v2, vs2, d2, ds2, p2, q2, rfl, rfl, rfl, h2, hA⟩ := trodAll_cons hA
  obtain ⟨v3, vs3, d3, ds3, p3, q3, rfl, rfl, rfl, h3, hA⟩ := trodAll_cons hA
  obtain ⟨v4, vs4, d4, ds4, p4, q4, rfl, rfl, rfl, h4, hA⟩ := trodAll_cons hA
  obtain ⟨v5, vs5, d5, ds5, p5, q5, rfl, rfl, rfl, h5, hA⟩ := trodAll_cons hA
  obtain ⟨rfl, rfl, rfl⟩ := trodAll_nil hA
  obtain rfl : args = #[v0, v1, v2, v3, v4, v5] := by cases args; simp_all
  obtain ⟨x0, rfl, hR0, hw0, hn0, hm0⟩ := zYr (hval 0 25 v0 rfl rfl) h0 (fun x hx => hW'.lt x (by simp [hx]))
  obtain ⟨x1, hw1, rfl⟩ := jCn (hval 1 27 v1 rfl rfl) h1
  obtain ⟨n2, rfl, _, _, hv2⟩ := open_int zH9 (hval 2 3 v2 rfl rfl) h2
  obtain ⟨n3, rfl, _, _, hv3⟩ := open_int zH9 (hval 3 3 v3 rfl rfl) h3
  obtain ⟨n4, rfl, _, _, hv4⟩ := open_int zH9 (hval 4 3 v4 rfl rfl) h4
  obtain ⟨A5, c5, l5, rfl, hR5, hn5⟩ := zZy (hval 5 23 v5 rfl rfl) h5 (fun x hx => hW'.lt x (by simp [hx]))
  refine zRd (s := charAgainsSpec) (fn := Tryz.f5) rfl rfl (fun t ht => ?_) rfl hW' (@zPd (ZS W) (reaC_main W.heap.size) x0.fA x0.dA A5 x0.fc x0.dc c5 x0.fz x0.kz n2 n3 n4 x1.power x1.gain x1.now x1.washed x0.dz l5 hn0 hm0 hw0 hw1 (seenZ W) (zJh hR0.f) (zJh hR0.d) (zJh hR5) (zY4 W))
  rw [hp] at ht
  simp only [List.mem_cons, List.not_mem_nil, or_false] at ht
  rcases ht with rfl | rfl | rfl | rfl | rfl | rfl
  · exact zXy
  · exact zZi
  · exact zO8
  · exact zO8
  · exact zO8
  · exact zWs
set_option maxRecDepth 100000 in
theorem charAgains_lifted (os : Os) (started : os.Started) (H : Type) (enc : TypeId × Value → H) :
    ReturnsInLeavingWide {} Tryz.checked os 5 .any (charAgainsSpec.pre6 enc Tryz.prog Tryz.f5 charAgainsRow.domain false) (charAgainsSpec.post enc Tryz.prog Tryz.f5 false true false false) :=
  zBs (C := Tryz.checked) 158 msgM own_ started (by kernel_rfl) Tryz.func5
    (ChangeSpec.witness6 (enc := enc) (C := Tryz.checked) false ⟨#[], #[.agg #[.slice Option.none 0 0, .int .i64 0, .slice Option.none 0 0], .agg #[.int .i64 0, .int .i64 0, .int .i64 0, .bool false], .int .i64 0, .int .i64 0, .int .i64 0, .slice Option.none 0 0], []⟩ 8 (by kernel_rfl) (by kernel_rfl) (by kernel_rfl) (by kernel_rfl))
    (fun W base args ds gs before hval hW _ _ _ => charAgains_contract W base args ds gs before hval hW)
set_option maxRecDepth 100000 in
theorem charAgains_inPlace : Tryz.prog.inPlace 5 = charAgainsRow.inPlace := by kernel_rfl
set_option maxRecDepth 100000 in
theorem charAgains_unfollowed : Tryz.prog.unfollowed 5 = charAgainsRow.unfollowed := by kernel_rfl
set_option maxRecDepth 100000 in
theorem charAgains_recurses : Tryz.prog.recurses 5 = charAgainsRow.recurses := by kernel_rfl
set_option maxRecDepth 100000 in
theorem charAgains_named : Tryz.prog.varsNamed 5 = charAgainsRow.named := by kernel_rfl
set_option maxRecDepth 100000 in
theorem charAgains_joined : joinedFacts Tryz.prog 5 Tryz.f5 charAgainsSpec charAgainsRow = true := by
  unfold joinedFacts
  rw [zOo, zTr, charAgains_inPlace, charAgains_unfollowed, charAgains_recurses, charAgains_named, zT7, zRb, may_, jDf, jGa]
  kernel_rfl
set_option maxRecDepth 100000 in
theorem charAgains_func : Tryz.prog.funcNamed "muscovado/muscovadolaw04.CharAgains" = some 5 := by kernel_rfl
set_option maxRecDepth 100000 in
theorem charAgains_holds : CharAgainsSaid :=
  OpenClaim.holds_of_wide_leaving 5 Tryz.f5 rfl rfl rfl rfl rfl rfl rfl ⟨rfl, rfl, rfl, rfl, rfl⟩ rfl rfl rfl rfl rfl charAgains_func Tryz.func5 charAgains_joined
    (of_decide_eq_true (by kernel_rfl)) (by unfold Func.isWrapper; first | (rw [if_pos (by decide +kernel)]; kernel_rfl) | (rw [if_neg (by decide +kernel)]; exact ⟨rfl, rfl⟩))
    (fun os started H enc _ => charAgains_lifted os started H enc)
#print axioms charAgains_holds
end Go.Proofs.YteppiphdbondeaaGreat.N
