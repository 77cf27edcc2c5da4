/- CharBuys returns true for every input and leaves its arguments as they were, on every schedule of the goroutines that its calls start. -/
import Derived.Test.YteppiphdbondeaaGreatSCharBuys11
namespace Go.Proofs.YteppiphdbondeaaGreat.N
open Go Go.ChangeShapes Go.WideShapes Go.ChangeAt Go.RowKit Go.Proofs Go.Proofs.YteppiphdbondeaaGreat Go.Proofs.YteppiphdbondeaaGreat.Rows
set_option linter.unusedSectionVars false
set_option maxRecDepth 100000 in
theorem charBuys_contract {H : Type} {enc : TypeId × Value → H} (W : World) (base : Nat) (args : Array Value) (ds gs : List (DataW H)) (before : List MemPlace)
    (hval : ∀ (j : Nat) t v, Tryz.f4.params[j]? = some t → args[j]? = some v → Value.okWide Tryz.prog W .any base t v)
    (hW : DataW.Whole enc Tryz.prog Tryz.f4.params.toList charBuysSpec.vars false W args.toList ds gs before) :
    @Calls Tryz.prog (ZS W) 4 args (seenZ W) fun e v' => ∃ x, e = .returned x ∧ Below (seenZ W).heap.size (seenZ W) v' ∧ ∀ W', Below W.heap.size W W' → charBuysSpec.post enc Tryz.prog Tryz.f4 false true false false W args x W' := by
  have hp : Tryz.f4.params = #[25, 27, 3, 22, 23] := rfl
  have hW' := hW
  obtain ⟨p, q, hA, hV, rfl, _, _⟩ := hW
  rw [hp] at hA hval
  obtain ⟨v0, vs0, d0, ds0, p0, q0, ha, rfl, rfl, h0, hA⟩ := trodAll_cons hA
  obtain ⟨v1, vs1, d1, ds1, p1, q1, rfl, rfl, rfl, h1, hA⟩ := trodAll_cons hA
  obtain ⟨v2, vs2, d2, ds2, p2, q2, rfl, rfl, rfl, h2, hA⟩ := trodAll_cons hA
  obtain ⟨v3, vs3, d3, ds3, p3, q3, rfl, rfl, rfl, h3, hA⟩ := trodAll_cons hA
  obtain ⟨v4, vs4, d4, ds4, p4, q4, rfl, rfl, rfl, h4, hA⟩ := trodAll_cons hA
  obtain ⟨rfl, rfl, rfl⟩ := trodAll_nil hA
  obtain rfl : args = #[v0, v1, v2, v3, v4] := by cases args; simp_all
  obtain ⟨x0, rfl, hR0, hw0, hn0, hm0⟩ := zXv (hval 0 25 v0 rfl rfl) h0 (fun x hx => hW'.lt x (by simp [hx]))
  obtain ⟨x1, hw1, rfl⟩ := zZi (hval 1 27 v1 rfl rfl) h1
  obtain ⟨n2, rfl, _, _, hv2⟩ := open_int zNw (hval 2 3 v2 rfl rfl) h2
  obtain ⟨A3, c3, l3, rfl, hR3, hw3, hn3⟩ := zXj (hval 3 22 v3 rfl rfl) h3 (fun x hx => hW'.lt x (by simp [hx]))
  obtain ⟨A4, c4, l4, rfl, hR4, hn4⟩ := zW5 (hval 4 23 v4 rfl rfl) h4 (fun x hx => hW'.lt x (by simp [hx]))
  refine zQg (s := charBuysSpec) (fn := Tryz.f4) rfl rfl (fun t ht => ?_) rfl hW' (@zSe (ZS W) (reaC_main W.heap.size) x0.fA x0.dA A4 A3 x0.fc x0.dc c4 c3 x0.fz l3 x0.kz n2 x1.power x1.gain x1.now x1.washed x0.dz l4 hn0 hm0 hw0 hw1 hn3 hw3 (seenZ W) (zFs hR0.f) (zFs hR0.d) (zFs hR3) (zFs hR4) (zYd W))
  rw [hp] at ht
  simp only [List.mem_cons, List.not_mem_nil, or_false] at ht
  rcases ht with rfl | rfl | rfl | rfl | rfl
  · exact zWl
  · exact zYf
  · exact jBk
  · exact zY0
  · exact zUn
set_option maxRecDepth 100000 in
theorem charBuys_lifted (os : Os) (started : os.Started) (H : Type) (enc : TypeId × Value → H) :
    ReturnsInLeavingWide {} Tryz.checked os 4 .any (charBuysSpec.pre6 enc Tryz.prog Tryz.f4 charBuysRow.domain false) (charBuysSpec.post enc Tryz.prog Tryz.f4 false true false false) :=
  zBy (C := Tryz.checked) 158 msgM own_ started (by kernel_rfl) Tryz.func4
    (ChangeSpec.witness6 (enc := enc) (C := Tryz.checked) false ⟨#[], #[.agg #[.slice Option.none 0 0, .int .i64 0, .slice Option.none 0 0], .agg #[.int .i64 0, .int .i64 0, .int .i64 0, .bool false], .int .i64 0, .slice Option.none 0 0, .slice Option.none 0 0], []⟩ 8 (by kernel_rfl) (by kernel_rfl) (by kernel_rfl) (by kernel_rfl))
    (fun W base args ds gs before hval hW _ _ _ => charBuys_contract W base args ds gs before hval hW)
set_option maxRecDepth 100000 in
theorem charBuys_inPlace : Tryz.prog.inPlace 4 = charBuysRow.inPlace := by kernel_rfl
set_option maxRecDepth 100000 in
theorem charBuys_unfollowed : Tryz.prog.unfollowed 4 = charBuysRow.unfollowed := by kernel_rfl
set_option maxRecDepth 100000 in
theorem charBuys_recurses : Tryz.prog.recurses 4 = charBuysRow.recurses := by kernel_rfl
set_option maxRecDepth 100000 in
theorem charBuys_named : Tryz.prog.varsNamed 4 = charBuysRow.named := by kernel_rfl
set_option maxRecDepth 100000 in
theorem charBuys_joined : joinedFacts Tryz.prog 4 Tryz.f4 charBuysSpec charBuysRow = true := by
  unfold joinedFacts
  rw [zN6, zTu, charBuys_inPlace, charBuys_unfollowed, charBuys_recurses, charBuys_named, zTs, zQ3, may_, jBz, jDk]
  kernel_rfl
set_option maxRecDepth 100000 in
theorem charBuys_func : Tryz.prog.funcNamed "muscovado/muscovadolaw04.CharBuys" = some 4 := by kernel_rfl
set_option maxRecDepth 100000 in
theorem charBuys_holds : CharBuysSaid :=
  OpenClaim.holds_of_wide_leaving 4 Tryz.f4 rfl rfl rfl rfl rfl rfl rfl ⟨rfl, rfl, rfl, rfl, rfl⟩ rfl rfl rfl rfl rfl charBuys_func Tryz.func4 charBuys_joined
    (of_decide_eq_true (by kernel_rfl)) (by unfold Func.isWrapper; first | (rw [if_pos (by decide +kernel)]; kernel_rfl) | (rw [if_neg (by decide +kernel)]; exact ⟨rfl, rfl⟩))
    (fun os started H enc _ => charBuys_lifted os started H enc)
#print axioms charBuys_holds
end Go.Proofs.YteppiphdbondeaaGreat.N
