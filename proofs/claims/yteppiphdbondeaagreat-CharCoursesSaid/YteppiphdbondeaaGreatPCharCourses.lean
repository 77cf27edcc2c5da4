/- CharCourses returns true for every input and leaves its arguments as they were, on every schedule of the goroutines that its calls start. -/
import Derived.Test.YteppiphdbondeaaGreatSCharCourses11
import Derived.Test.YteppiphdbondeaaGreatSCharCourses12
namespace Go.Proofs.YteppiphdbondeaaGreat.N
open Go Go.ChangeShapes Go.WideShapes Go.ChangeAt Go.RowKit Go.Proofs Go.Proofs.YteppiphdbondeaaGreat Go.Proofs.YteppiphdbondeaaGreat.Rows
set_option linter.unusedSectionVars false
set_option maxRecDepth 100000 in
theorem charCourses_contract {H : Type} {enc : TypeId × Value → H} (W : World) (base : Nat) (args : Array Value) (ds gs : List (DataW H)) (before : List MemPlace)
    (hval : ∀ (j : Nat) t v, Tryz.f6.params[j]? = some t → args[j]? = some v → Value.okWide Tryz.prog W .any base t v)
    (hW : DataW.Whole enc Tryz.prog Tryz.f6.params.toList charCoursesSpec.vars false W args.toList ds gs before) :
    @Calls Tryz.prog (ZS W) 6 args (seenZ W) fun e v' => ∃ x, e = .returned x ∧ Below (seenZ W).heap.size (seenZ W) v' ∧ ∀ W', Below W.heap.size W W' → charCoursesSpec.post enc Tryz.prog Tryz.f6 false true false false W args x W' := by
  have hp : Tryz.f6.params = #[25, 27, 3, 35, 23] := rfl
  have hW' := hW
  obtain ⟨p, q, hA, hV, rfl, _, _⟩ := hW
  rw [hp] at hA hval
  obtain ⟨v0, vs0, d0, ds0, p0, q0, ha, rfl, rfl, h0, hA⟩ := trodAll_cons hA
  obtain ⟨v1, vs1, d1, ds1, p1, q1, rfl, rfl, rfl, h1, hA⟩ := trodAll_cons hA
  obtain ⟨v2, vs2, d2, ds2, p2, q2, rfl, rfl, rfl, h2, hA⟩ := trodAll_cons hA
  obtain ⟨v3, vs3, d3, ds3, p3, q3, rfl, rfl, rfl, h3, hA⟩ := trodAll_cons hA
  obtain ⟨v4, vs4, d4, ds4, p4, q4, rfl, rfl, rfl, h4, hA⟩ := trodAll_cons hA
  obtain ⟨rfl, rfl, rfl⟩ := trodAll_nil hA
  obtain rfl : args = #[v0, v1, v2, v3, v4] := by cases args; simp_all
  obtain ⟨x0, rfl, hR0, hw0, hn0, hm0⟩ := zXu (hval 0 25 v0 rfl rfl) h0 (fun x hx => hW'.lt x (by simp [hx]))
  obtain ⟨x1, hw1, rfl⟩ := jCl (hval 1 27 v1 rfl rfl) h1
  obtain ⟨n2, rfl, _, _, hv2⟩ := open_int zNr (hval 2 3 v2 rfl rfl) h2
  obtain ⟨A3, c3, l3, rfl, hR3, hw3, hn3⟩ := zY1 (hval 3 35 v3 rfl rfl) h3 (fun x hx => hW'.lt x (by simp [hx]))
  obtain ⟨A4, c4, l4, rfl, hR4, hn4⟩ := zZl (hval 4 23 v4 rfl rfl) h4 (fun x hx => hW'.lt x (by simp [hx]))
  refine zQ2 (s := charCoursesSpec) (fn := Tryz.f6) rfl rfl (fun t ht => ?_) rfl hW' (@zM8 (ZS W) (reaC_main W.heap.size) x0.fA x0.dA A4 A3 x0.fc x0.dc c4 c3 x0.fz l3 x0.kz n2 x1.power x1.gain x1.now x1.washed x0.dz l4 hn0 hm0 hw0 hw1 hw3 (seenZ W) (zDw hR0.f) (zDw hR0.d) (zX2 hR3) (zDw hR4) (zYu W))
  rw [hp] at ht
  simp only [List.mem_cons, List.not_mem_nil, or_false] at ht
  rcases ht with rfl | rfl | rfl | rfl | rfl
  · exact zXa
  · exact zY6
  · exact jDv
  · exact zU6
  · exact zV2
set_option maxRecDepth 100000 in
theorem charCourses_lifted (os : Os) (started : os.Started) (H : Type) (enc : TypeId × Value → H) :
    ReturnsInLeavingWide {} Tryz.checked os 6 .any (charCoursesSpec.pre6 enc Tryz.prog Tryz.f6 charCoursesRow.domain false) (charCoursesSpec.post enc Tryz.prog Tryz.f6 false true false false) :=
  zBr (C := Tryz.checked) 158 msgM own_ started (by kernel_rfl) Tryz.func6
    (ChangeSpec.witness6 (enc := enc) (C := Tryz.checked) false ⟨#[], #[.agg #[.slice Option.none 0 0, .int .i64 0, .slice Option.none 0 0], .agg #[.int .i64 0, .int .i64 0, .int .i64 0, .bool false], .int .i64 0, .slice Option.none 0 0, .slice Option.none 0 0], []⟩ 8 (by kernel_rfl) (by kernel_rfl) (by kernel_rfl) (by kernel_rfl))
    (fun W base args ds gs before hval hW _ _ _ => charCourses_contract W base args ds gs before hval hW)
set_option maxRecDepth 100000 in
theorem charCourses_inPlace : Tryz.prog.inPlace 6 = charCoursesRow.inPlace := by kernel_rfl
set_option maxRecDepth 100000 in
theorem charCourses_unfollowed : Tryz.prog.unfollowed 6 = charCoursesRow.unfollowed := by kernel_rfl
set_option maxRecDepth 100000 in
theorem charCourses_recurses : Tryz.prog.recurses 6 = charCoursesRow.recurses := by kernel_rfl
set_option maxRecDepth 100000 in
theorem charCourses_named : Tryz.prog.varsNamed 6 = charCoursesRow.named := by kernel_rfl
set_option maxRecDepth 100000 in
theorem charCourses_joined : joinedFacts Tryz.prog 6 Tryz.f6 charCoursesSpec charCoursesRow = true := by
  unfold joinedFacts
  rw [zN2, zTn, charCourses_inPlace, charCourses_unfollowed, charCourses_recurses, charCourses_named, zS2, zQ8, may_, jDw, jEs]
  kernel_rfl
set_option maxRecDepth 100000 in
theorem charCourses_func : Tryz.prog.funcNamed "muscovado/muscovadolaw04.CharCourses" = some 6 := by kernel_rfl
set_option maxRecDepth 100000 in
theorem charCourses_holds : CharCoursesSaid :=
  OpenClaim.holds_of_wide_leaving 6 Tryz.f6 rfl rfl rfl rfl rfl rfl rfl ⟨rfl, rfl, rfl, rfl, rfl⟩ rfl rfl rfl rfl rfl charCourses_func Tryz.func6 charCourses_joined
    (of_decide_eq_true (by kernel_rfl)) (by unfold Func.isWrapper; first | (rw [if_pos (by decide +kernel)]; kernel_rfl) | (rw [if_neg (by decide +kernel)]; exact ⟨rfl, rfl⟩))
    (fun os started H enc _ => charCourses_lifted os started H enc)
#print axioms charCourses_holds
end Go.Proofs.YteppiphdbondeaaGreat.N
