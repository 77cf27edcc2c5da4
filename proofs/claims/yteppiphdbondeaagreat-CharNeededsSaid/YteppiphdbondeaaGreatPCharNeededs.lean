/- CharNeededs returns true for every input and leaves its arguments as they were, on every schedule of the goroutines that its calls start. -/
import Derived.Test.YteppiphdbondeaaGreatSCharNeededs10
namespace Go.Proofs.YteppiphdbondeaaGreat.N
open Go Go.ChangeShapes Go.WideShapes Go.ChangeAt Go.RowKit Go.Proofs Go.Proofs.YteppiphdbondeaaGreat Go.Proofs.YteppiphdbondeaaGreat.Rows
set_option linter.unusedSectionVars false
set_option maxRecDepth 100000 in
theorem charNeededs_contract {H : Type} {enc : TypeId × Value → H} (W : World) (base : Nat) (args : Array Value) (ds gs : List (DataW H)) (before : List MemPlace)
    (hval : ∀ (j : Nat) t v, Tryz.f8.params[j]? = some t → args[j]? = some v → Value.okWide Tryz.prog W .any base t v)
    (hW : DataW.Whole enc Tryz.prog Tryz.f8.params.toList charNeededsSpec.vars false W args.toList ds gs before) :
    @Calls Tryz.prog (ZS W) 8 args (seenZ W) fun e v' => ∃ x, e = .returned x ∧ Below (seenZ W).heap.size (seenZ W) v' ∧ ∀ W', Below W.heap.size W W' → charNeededsSpec.post enc Tryz.prog Tryz.f8 false true false false W args x W' := by
  have hp : Tryz.f8.params = #[25, 27, 3, 23] := rfl
  have hW' := hW
  obtain ⟨p, q, hA, hV, rfl, _, _⟩ := hW
  rw [hp] at hA hval
  obtain ⟨v0, vs0, d0, ds0, p0, q0, ha, rfl, rfl, h0, hA⟩ := trodAll_cons hA
  obtain ⟨v1, vs1, d1, ds1, p1, q1, rfl, rfl, rfl, h1, hA⟩ := trodAll_cons hA
  obtain ⟨v2, vs2, d2, ds2, p2, q2, rfl, rfl, rfl, h2, hA⟩ := trodAll_cons hA
  obtain ⟨v3, vs3, d3, ds3, p3, q3, rfl, rfl, rfl, h3, hA⟩ := trodAll_cons hA
  obtain ⟨rfl, rfl, rfl⟩ := trodAll_nil hA
  obtain rfl : args = #[v0, v1, v2, v3] := by cases args; simp_all
  obtain ⟨x0, rfl, hR0, hw0, hn0, hm0⟩ := zX5 (hval 0 25 v0 rfl rfl) h0 (fun x hx => hW'.lt x (by simp [hx]))
  obtain ⟨x1, hw1, rfl⟩ := zZm (hval 1 27 v1 rfl rfl) h1
  obtain ⟨n2, rfl, _, _, hv2⟩ := open_int zM2 (hval 2 3 v2 rfl rfl) h2
  obtain ⟨A3, c3, l3, rfl, hR3, hn3⟩ := zXu (hval 3 23 v3 rfl rfl) h3 (fun x hx => hW'.lt x (by simp [hx]))
  refine zP2 (s := charNeededsSpec) (fn := Tryz.f8) rfl rfl (fun t ht => ?_) rfl hW' (@zMi (ZS W) (reaC_main W.heap.size) x0.fA x0.dA A3 x0.fc x0.dc c3 x0.fz x0.kz n2 x1.power x1.gain x1.now x1.washed x0.dz l3 hn0 hm0 hw0 hw1 (seenZ W) (zIk hR0.f) (zIk hR0.d) (zIk hR3) (zWr W))
  rw [hp] at ht
  simp only [List.mem_cons, List.not_mem_nil, or_false] at ht
  rcases ht with rfl | rfl | rfl | rfl
  · exact zXg
  · exact zW6
  · exact jC8
  · exact zUf
set_option maxRecDepth 100000 in
theorem charNeededs_lifted (os : Os) (started : os.Started) (H : Type) (enc : TypeId × Value → H) :
    ReturnsInLeavingWide {} Tryz.checked os 8 .any (charNeededsSpec.pre6 enc Tryz.prog Tryz.f8 charNeededsRow.domain false) (charNeededsSpec.post enc Tryz.prog Tryz.f8 false true false false) :=
  zBk (C := Tryz.checked) 158 msgM own_ started (by kernel_rfl) Tryz.func8
    (ChangeSpec.witness6 (enc := enc) (C := Tryz.checked) false ⟨#[], #[.agg #[.slice Option.none 0 0, .int .i64 0, .slice Option.none 0 0], .agg #[.int .i64 0, .int .i64 0, .int .i64 0, .bool false], .int .i64 0, .slice Option.none 0 0], []⟩ 8 (by kernel_rfl) (by kernel_rfl) (by kernel_rfl) (by kernel_rfl))
    (fun W base args ds gs before hval hW _ _ _ => charNeededs_contract W base args ds gs before hval hW)
set_option maxRecDepth 100000 in
theorem charNeededs_inPlace : Tryz.prog.inPlace 8 = charNeededsRow.inPlace := by kernel_rfl
set_option maxRecDepth 100000 in
theorem charNeededs_unfollowed : Tryz.prog.unfollowed 8 = charNeededsRow.unfollowed := by kernel_rfl
set_option maxRecDepth 100000 in
theorem charNeededs_recurses : Tryz.prog.recurses 8 = charNeededsRow.recurses := by kernel_rfl
set_option maxRecDepth 100000 in
theorem charNeededs_named : Tryz.prog.varsNamed 8 = charNeededsRow.named := by kernel_rfl
set_option maxRecDepth 100000 in
theorem charNeededs_joined : joinedFacts Tryz.prog 8 Tryz.f8 charNeededsSpec charNeededsRow = true := by
  unfold joinedFacts
  rw [zOl, zSs, charNeededs_inPlace, charNeededs_unfollowed, charNeededs_recurses, charNeededs_named, zS7, zQe, may_, jCh, jDe]
  kernel_rfl
set_option maxRecDepth 100000 in
theorem charNeededs_func : Tryz.prog.funcNamed "muscovado/muscovadolaw04.CharNeededs" = some 8 := by kernel_rfl
set_option maxRecDepth 100000 in
theorem charNeededs_holds : CharNeededsSaid :=
  OpenClaim.holds_of_wide_leaving 8 Tryz.f8 rfl rfl rfl rfl rfl rfl rfl ⟨rfl, rfl, rfl, rfl, rfl⟩ rfl rfl rfl rfl rfl charNeededs_func Tryz.func8 charNeededs_joined
    (of_decide_eq_true (by kernel_rfl)) (by unfold Func.isWrapper; first | (rw [if_pos (by decide +kernel)]; kernel_rfl) | (rw [if_neg (by decide +kernel)]; exact ⟨rfl, rfl⟩))
    (fun os started H enc _ => charNeededs_lifted os started H enc)
#print axioms charNeededs_holds
end Go.Proofs.YteppiphdbondeaaGreat.N
