/- CharMosts returns true for every input and leaves its arguments as they were, on every schedule of the goroutines that its calls start. -/
import Derived.Test.YteppiphdbondeaaGreatSCharMosts10
import Derived.Test.YteppiphdbondeaaGreatSCharMosts11
namespace Go.Proofs.YteppiphdbondeaaGreat.N
open Go Go.ChangeShapes Go.WideShapes Go.ChangeAt Go.RowKit Go.Proofs Go.Proofs.YteppiphdbondeaaGreat Go.Proofs.YteppiphdbondeaaGreat.Rows
set_option linter.unusedSectionVars false
set_option maxRecDepth 100000 in
theorem charMosts_contract {H : Type} {enc : TypeId × Value → H} (W : World) (base : Nat) (args : Array Value) (ds gs : List (DataW H)) (before : List MemPlace)
    (hval : ∀ (j : Nat) t v, Tryz.f9.params[j]? = some t → args[j]? = some v → Value.okWide Tryz.prog W .any base t v)
    (hW : DataW.Whole enc Tryz.prog Tryz.f9.params.toList charMostsSpec.vars false W args.toList ds gs before) :
    @Calls Tryz.prog (ZS W) 9 args (seenZ W) fun e v' => ∃ x, e = .returned x ∧ Below (seenZ W).heap.size (seenZ W) v' ∧ ∀ W', Below W.heap.size W W' → charMostsSpec.post enc Tryz.prog Tryz.f9 false true false false W args x W' := by
  have hp : Tryz.f9.params = #[25, 27, 3, 3, 23] := rfl
  have hW' := hW
  obtain ⟨p, q, hA, hV, rfl, _, _⟩ := hW
  rw [hp] at hA hval
  obtain ⟨v0, vs0, d0, ds0, p0, q0, ha, rfl, rfl, h0, hA⟩ := trodAll_cons hA
  obtain ⟨v1, vs1, d1, ds1, p1, q1, rfl, rfl, rfl, h1, hA⟩ := trodAll_cons hA
  obtain ⟨v2, vs2, d2, ds2, p2, q2, rfl, rfl, rfl, h2, hA⟩ := trodAll_cons hA
  obtain ⟨v3, vs3, d3, ds3, p3, q3, rfl, rfl, rfl, h3, hA⟩ := trodAll_cons hA
  obtain ⟨v4, vs4, d4, ds4, p4, q4, rfl, rfl, rfl, h4, hA⟩ := trodAll_cons hA
  obtain ⟨rfl, rfl, rfl⟩ := trodAll_nil hA
  obtain rfl : args = #[v0, v1, v2, v3, v4] := by cases args; simp_all
  obtain ⟨x0, rfl, hR0, hw0, hn0, hm0⟩ := zWq (hval 0 25 v0 rfl rfl) h0 (fun x hx => hW'.lt x (by simp [hx]))
  obtain ⟨x1, hw1, rfl⟩ := jAw (hval 1 27 v1 rfl rfl) h1
  obtain ⟨n2, rfl, _, _, hv2⟩ := open_int zJt (hval 2 3 v2 rfl rfl) h2
  obtain ⟨n3, rfl, _, _, hv3⟩ := open_int zJt (hval 3 3 v3 rfl rfl) h3
  obtain ⟨A4, c4, l4, rfl, hR4, hn4⟩ := zXx (hval 4 23 v4 rfl rfl) h4 (fun x hx => hW'.lt x (by simp [hx]))
  refine zQk (s := charMostsSpec) (fn := Tryz.f9) rfl rfl (fun t ht => ?_) rfl hW' (@zQz (ZS W) (reaC_main W.heap.size) x0.fA x0.dA A4 x0.fc x0.dc c4 x0.fz x0.kz n2 n3 x1.power x1.gain x1.now x1.washed x0.dz l4 hn0 hm0 hw0 hw1 (seenZ W) (zIo hR0.f) (zIo hR0.d) (zIo hR4) (zXi W))
  rw [hp] at ht
  simp only [List.mem_cons, List.not_mem_nil, or_false] at ht
  rcases ht with rfl | rfl | rfl | rfl | rfl
  · exact zW9
  · exact zYa
  · exact zVz
  · exact zVz
  · exact zTu
set_option maxRecDepth 100000 in
theorem charMosts_lifted (os : Os) (started : os.Started) (H : Type) (enc : TypeId × Value → H) :
    ReturnsInLeavingWide {} Tryz.checked os 9 .any (charMostsSpec.pre6 enc Tryz.prog Tryz.f9 charMostsRow.domain false) (charMostsSpec.post enc Tryz.prog Tryz.f9 false true false false) :=
  zBm (C := Tryz.checked) 158 msgM own_ started (by kernel_rfl) Tryz.func9
    (ChangeSpec.witness6 (enc := enc) (C := Tryz.checked) false ⟨#[], #[.agg #[.slice Option.none 0 0, .int .i64 0, .slice Option.none 0 0], .agg #[.int .i64 0, .int .i64 0, .int .i64 0, .bool false], .int .i64 0, .int .i64 0, .slice Option.none 0 0], []⟩ 8 (by kernel_rfl) (by kernel_rfl) (by kernel_rfl) (by kernel_rfl))
    (fun W base args ds gs before hval hW _ _ _ => charMosts_contract W base args ds gs before hval hW)
set_option maxRecDepth 100000 in
theorem charMosts_inPlace : Tryz.prog.inPlace 9 = charMostsRow.inPlace := by kernel_rfl
set_option maxRecDepth 100000 in
theorem charMosts_unfollowed : Tryz.prog.unfollowed 9 = charMostsRow.unfollowed := by kernel_rfl
set_option maxRecDepth 100000 in
theorem charMosts_recurses : Tryz.prog.recurses 9 = charMostsRow.recurses := by kernel_rfl
set_option maxRecDepth 100000 in
theorem charMosts_named : Tryz.prog.varsNamed 9 = charMostsRow.named := by kernel_rfl
set_option maxRecDepth 100000 in
theorem charMosts_joined : joinedFacts Tryz.prog 9 Tryz.f9 charMostsSpec charMostsRow = true := by
  unfold joinedFacts
  rw [zOf, zSo, charMosts_inPlace, charMosts_unfollowed, charMosts_recurses, charMosts_named, zTm, zQg, may_, jCf, jDy]
  kernel_rfl
set_option maxRecDepth 100000 in
theorem charMosts_func : Tryz.prog.funcNamed "muscovado/muscovadolaw04.CharMosts" = some 9 := by kernel_rfl
set_option maxRecDepth 100000 in
theorem charMosts_holds : CharMostsSaid :=
  OpenClaim.holds_of_wide_leaving 9 Tryz.f9 rfl rfl rfl rfl rfl rfl rfl ⟨rfl, rfl, rfl, rfl, rfl⟩ rfl rfl rfl rfl rfl charMosts_func Tryz.func9 charMosts_joined
    (of_decide_eq_true (by kernel_rfl)) (by unfold Func.isWrapper; first | (rw [if_pos (by decide +kernel)]; kernel_rfl) | (rw [if_neg (by decide +kernel)]; exact ⟨rfl, rfl⟩))
    (fun os started H enc _ => charMosts_lifted os started H enc)
#print axioms charMosts_holds
end Go.Proofs.YteppiphdbondeaaGreat.N
