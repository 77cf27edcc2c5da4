/- Parts of the walks of the laws on fining: Kit, F16, Kit2, F17, Kit3, F18, Both5, F19. -/
import Derived.Test.YtofkhehcnfiopaaDoorCHatL
import Derived.Test.YtofkhehcnfiopaaDoorProg
namespace Go.Proofs.YtofkhehcnfiopaaDoor.N
open Go Go.RowKit Go.Proofs
theorem sub_pow {few : Nat} (h : few ≤ 6) : IntKind.i64.wrap (((2 ^ few : Nat) : Int) - 1) = ((2 ^ few - 1 : Nat) : Int) := by
  have h1 : 1 ≤ 2 ^ few := Nat.one_le_two_pow
  have h2 : 2 ^ few ≤ 2 ^ 6 := Nat.pow_le_pow_right (by omega) h
  generalize (2 : Nat) ^ few = q at *
  rw [wrap_i64' _ (by omega) (by omega)]
  omega
/-- What a melt is behind a way; none if it is no way. -/
def followN (ags : List Ag) : Nat → List Nat → Option Nat
  | f, [] => some f
  | f, i :: l => if i < ags.length ∧ mayN (ags.getD i default) f = true then followN ags (putN (ags.getD i default) f) l else none
def followV (o : Option Nat) : Nat := o.getD 0
theorem followN_step {ags : List Ag} {f k i : Nat} {way : List Nat} (hi : way[k]? = some i) : followN ags f (way.drop k) = if i < ags.length ∧ mayN (ags.getD i default) f = true then followN ags (putN (ags.getD i default) f) (way.drop (k + 1)) else none := by
  obtain ⟨hk, he⟩ := List.getElem?_eq_some_iff.1 hi
  rw [List.drop_eq_getElem_cons hk, he]
  rfl
theorem may_and {x : Ag} {f : Nat} : mayN x f = (decide (f &&& x.needs = x.needs) && decide (f &&& x.no = 0)) := by
  unfold mayN
  have e1 : nn x.needs f = 0 ↔ f &&& x.needs = x.needs := by
    constructor
    · intro h
      apply Nat.eq_of_testBit_eq
      intro i
      have := congrArg (fun n => n.testBit i) h
      simp [nn, Nat.testBit_and, Nat.testBit_xor] at this ⊢
      cases h1 : f.testBit i <;> cases h2 : x.needs.testBit i <;> simp_all
    · intro h
      apply Nat.eq_of_testBit_eq
      intro i
      have := congrArg (fun n => n.testBit i) h
      simp [nn, Nat.testBit_and, Nat.testBit_xor] at this ⊢
      cases h1 : f.testBit i <;> cases h2 : x.needs.testBit i <;> simp_all
  rw [Nat.and_comm x.no f]
  simp [e1]
end Go.Proofs.YtofkhehcnfiopaaDoor.N
namespace Go.Proofs.YtofkhehcnfiopaaDoor.N
open Go Go.RowKit Go.Proofs
theorem F.ent50 : Enters Tryd.prog 50 := enters_of Tryd.func50 rfl (by kernel_rfl)
theorem AgentsOf_c {C : Ctx} {fr : List (Nat × Value)} {T : List Res} {a : Act} {w : World} (hC : C.P = Tryd.prog) {hb tk st nc : Nat} {nA : Option Addr} {nums : List Int} (hB : C.w0.heap.size = C.B) (hN : RdL icell 1 C.w0 nA nums) (htk : tk ≤ 980000) (hst : st < 18446744073709551616) {many few : Nat} (hmany : many ≤ 4) (hf1 : 1 ≤ few) (hfew : few ≤ 6) (ha : At C fr (.blk hb (hatO nA nums.length nc (tk) (st)) :: T) a w) : Calls C.P 34 #[.pointer (some ⟨hb, 0, none⟩), .int .i64 (many : Int), .int .i64 (few : Int)] w fun e w' => ∃ (tk' st' : Nat) (l : List Ag) (A : Option Addr) (c : Nat), tk' ≤ tk + 200 ∧ st' < 18446744073709551616 ∧ l.length ≤ many ∧ (∀ x ∈ l, x.ok) ∧ e = .returned (.slice A l.length c) ∧ At C fr (.row 24 5 A l.length c (l.flatMap Ag.cells) :: .blk hb (hatO nA nums.length nc (tk') (st')) :: T) a w' := by
  obtain ⟨P, B, w0, N0, ds⟩ := C
  obtain rfl : P = Tryd.prog := hC
  (try dsimp only at hB)
  (try dsimp only at hN)
  refine enter_in (N := 23) [(0, .pointer (some ⟨hb, 0, none⟩)), (1, .int .i64 (many : Int)), (2, .int .i64 (few : Int))] ha Tryd.func34 rfl Tryd.ntmps34 rfl rfl ?_
  refine cod_seq ?_
  refine cod_region ?_
  refine lst_assign rfl rfl ?_
  refine lst_nil ?_
  refine ex_then ?_
  refine cod_seq ?_
  refine cod_region ?_
  refine lst_assign rfl rfl ?_
  refine lst_nil ?_
  refine ex_then ?_
  refine cod_seq ?_
  refine cod_seq ?_
  refine cod_region ?_
  refine lst_move rfl rfl ?_
  refine lst_move rfl rfl ?_
  refine lst_call_pul (X := Nat × Nat) (vs := [_, _, _]) hb (fun y => hatO nA nums.length nc (tk + 1) (y.1)) (fun y => y.1 < 18446744073709551616 ∧ 0 ≤ y.2 ∧ y.2 ≤ many) (fun y => .int .i64 (y.2 : Int)) rfl rfl F.ent87 (fun a w ha => (From_c (C := ⟨Tryd.prog, B, w0, _, _⟩) rfl hB hN (tk := tk) (st := st) (lo := 0) (hi := many) (by omega) hst (by omega) (by omega) ha).mono (fun e w' h => by obtain ⟨s', x, h1, h2, h3, h4, h5⟩ := h; exact ⟨(s', x), ⟨h1, h2, h3⟩, h4, h5⟩)) ?_
  rintro ⟨s1, n0⟩ ⟨hs1, _, hn0⟩
  dsimp only at hs1 hn0 ⊢
  refine lst_assign rfl rfl ?_
  refine lst_nil ?_
  refine ex_then ?_
  refine cod_block ?_
  refine cod_nil 24 5 ?_
  refine cod_loop' (G := Nat × Nat × Nat × Option Addr × Nat × List Ag) (fun g => g.1 + g.2.2.2.2.2.length ≤ many ∧ (∀ x ∈ g.2.2.2.2.2, x.ok) ∧ g.2.1 ≤ tk + 1 + 40 * g.2.2.2.2.2.length ∧ g.2.2.1 < 18446744073709551616) (fun g => g.1) (fun g => [(0, .pointer (some ⟨hb, 0, none⟩)), (1, .int .i64 (many : Int)), (2, .int .i64 (few : Int)), (7, .slice g.2.2.2.1 g.2.2.2.2.2.length g.2.2.2.2.1), (8, .int .i64 (g.1 : Int))]) (fun g => .row 24 5 g.2.2.2.1 g.2.2.2.2.2.length g.2.2.2.2.1 (g.2.2.2.2.2.flatMap Ag.cells) :: .blk hb (hatO nA nums.length nc (g.2.1) (g.2.2.1)) :: T) (n0, tk + 1, s1, none, 0, []) ⟨by simp; omega, by simp, by simp, hs1⟩ (by repeat (first | exact Sub.nil _ | refine Sub.cons rfl ?_)) (by repeat (first | exact Pck.nil _ | exact Pck.refl _ | (apply Pck.cons; focus ((repeat (first | exact Rem.here _ | apply Rem.there)); done)) | refine Pck.skip _ ?_)) ?_
  rintro ⟨i, t1, s2, A1, c1, l⟩ ⟨hil, hlo, ht1, hs2⟩
  dsimp only at hil hlo ht1 hs2 ⊢
  refine cod_seq ?_
  refine cod_seq ?_
  refine cod_region ?_
  refine lst_move rfl rfl ?_
  refine lst_int rfl rfl rfl bin_gtr ?_
  refine lst_nil ?_
  refine ex_then ?_
  refine cod_cond_dec rfl (fun hc0 => ?_) (fun hc0 => ?_)
  · skip
    obtain ⟨i, rfl⟩ : ∃ i', i = i' + 1 := ⟨i - 1, by omega⟩
    refine cod_skip ?_
    refine ex_then ?_
    refine cod_seq ?_
    refine cod_block ?_
    refine cod_region ?_
    refine lst_move rfl rfl ?_
    refine lst_move rfl rfl ?_
    refine lst_move rfl rfl ?_
    refine lst_call_pul (X := Nat × Nat × Ag) (vs := [_, _]) hb (fun y => hatO nA nums.length nc (y.1) (y.2.1)) (fun y => y.1 ≤ t1 + 40 ∧ y.2.1 < 18446744073709551616 ∧ y.2.2.ok) (fun y => .agg [.int .i64 (y.2.2.needs : Int), .int .i64 (y.2.2.no : Int), .int .i64 (y.2.2.takes : Int), .int .i64 (y.2.2.leaves : Int), .int .i64 (y.2.2.cost : Int)].toArray) rfl rfl F.ent50 (fun a w ha => (AgentOf_c (C := ⟨Tryd.prog, B, w0, _, _⟩) rfl hB hN (tk := t1) (st := s2) (few := few) (by omega) hs2 hf1 hfew ha).mono (fun e w' h => by obtain ⟨t', s', x, h1, h2, h3, h4, h5⟩ := h; exact ⟨(t', s', x), ⟨h1, h2, h3⟩, h4, h5⟩)) ?_
    rintro ⟨t2, s3, x⟩ ⟨ht2, hs3, hxo⟩
    dsimp only at ht2 hs3 hxo ⊢
    refine lst_litN (vs := [(0, _)]) [_, _, _, _, _] rfl rfl Tryd.underlying22 F.ti24 rfl rfl rfl ⟨rfl, [_, _, _, _, _], [], rfl, rfl, rfl, rfl⟩ ?_
    intro b20
    refine lst_append rfl rfl rfl Tryd.underlying22 F.ti24 rfl rfl rfl (by unfold maxLen; omega) (by omega) ?_
    intro A2 c2
    refine lst_assign rfl rfl ?_
    refine lst_nil ?_
    refine ex_block_normal ?_
    refine ex_then ?_
    refine cod_region ?_
    refine lst_move rfl rfl ?_
    refine lst_int rfl rfl rfl (fun w => bin_sub w (show IntKind.i64.wrap (((i + 1 : Nat) : Int) - 1) = (i : Int) from by rw [wrap_i64' _ (by omega) (by omega)]; omega)) ?_
    refine lst_assign rfl rfl ?_
    refine lst_nil ?_
    refine ex_round' (i, t2, s3, A2, c2, l ++ [x]) ⟨by simp; omega, fun y hy => ?_, by simp; omega, hs3⟩ (by (try dsimp only); omega) (by dsimp only; rw [List.length_append, List.length_singleton]; repeat (first | exact Sub.nil _ | refine Sub.cons rfl ?_)) (by dsimp only; rw [List.length_append, List.length_singleton, List.flatMap_append, List.flatMap_singleton]; repeat (first | exact Pck.nil _ | exact Pck.refl _ | (apply Pck.cons; focus ((repeat (first | exact Rem.here _ | apply Rem.there)); done)) | refine Pck.skip _ ?_))
    rcases List.mem_append.1 hy with h | h
    · exact hlo y h
    · simp at h; subst h; exact hxo
  · skip
    refine cod_exit ?_
    refine ex_then_exit ?_
    refine ex_then_exit ?_
    refine ex_block_exit ?_
    refine ex_then ?_
    refine cod_seq ?_
    refine cod_region ?_
    refine lst_move rfl rfl ?_
    refine lst_assign rfl rfl ?_
    refine lst_nil ?_
    refine ex_then ?_
    refine cod_ret ?_
    exact ex_ret rfl (fun a w ha => res_one rfl rfl ha) (fun _ _ ha' => ⟨t1, s2, l, A1, c1, by omega, hs2, by omega, hlo, rfl, ha.back (ha'.pck (by repeat (first | exact Pck.nil _ | exact Pck.refl _ | (apply Pck.cons; focus ((repeat (first | exact Rem.here _ | apply Rem.there)); done)) | refine Pck.skip _ ?_)))⟩)

theorem PassOf_c {C : Ctx} {fr : List (Nat × Value)} {T : List Res} {a : Act} {w : World} (hC : C.P = Tryd.prog) {hb tk st nc : Nat} {nA : Option Addr} {nums : List Int} (hB : C.w0.heap.size = C.B) (hN : RdL icell 1 C.w0 nA nums) (htk : tk ≤ 990000) (hst : st < 18446744073709551616) {few : Nat} (hfew : few ≤ 6) (ha : At C fr (.blk hb (hatO nA nums.length nc (tk) (st)) :: T) a w) : Calls C.P 26 #[.pointer (some ⟨hb, 0, none⟩), .int .i64 (few : Int)] w fun e w' => ∃ st' x : Nat, st' < 18446744073709551616 ∧ x < 64 ∧ e = .returned (.int .i64 (x : Int)) ∧ At C fr (.blk hb (hatO nA nums.length nc (tk + few + few) (st')) :: T) a w' := by
  have hpw : 2 ^ few ≤ 64 := (show 2 ^ few ≤ 2 ^ 6 from Nat.pow_le_pow_right (by omega) hfew)
  have hpw1 : 1 ≤ 2 ^ few := Nat.one_le_two_pow
  obtain ⟨P, B, w0, N0, ds⟩ := C
  obtain rfl : P = Tryd.prog := hC
  (try dsimp only at hB)
  (try dsimp only at hN)
  refine enter_in (N := 17) [(0, .pointer (some ⟨hb, 0, none⟩)), (1, .int .i64 (few : Int))] ha Tryd.func26 rfl Tryd.ntmps26 rfl rfl ?_
  refine cod_seq ?_
  refine cod_region ?_
  refine lst_assign rfl rfl ?_
  refine lst_nil ?_
  refine ex_then ?_
  refine cod_seq ?_
  refine any_begin [.b hb] F.follows 13 rfl [false, false, false, false, false, false, false, false, false, false, false, false, false] rfl ?_
  refine any_take (listed' := [true, false, false, false, false, false, false, false, false, false, false, false, false].toArray) 0 rfl rfl rfl (by kernel_rfl) (by kernel_rfl) (by kernel_rfl) (by repeat (first | exact List.Sublist.refl _ | exact List.nil_sublist _ | refine List.Sublist.cons_cons _ ?_ | refine List.Sublist.cons _ ?_)) (yld_move rfl) rfl ?_
  refine any_take (listed' := [true, true, false, false, false, false, false, false, false, false, false, false, false].toArray) 1 rfl rfl rfl (by kernel_rfl) (by kernel_rfl) (by kernel_rfl) (by repeat (first | exact List.Sublist.refl _ | exact List.nil_sublist _ | refine List.Sublist.cons_cons _ ?_ | refine List.Sublist.cons _ ?_)) (yld_shl rfl rfl (by omega) (shl_i64 (by omega))) rfl ?_
  refine any_take (listed' := [true, true, true, false, false, false, false, false, false, false, false, false, false].toArray) 2 rfl rfl rfl (by kernel_rfl) (by kernel_rfl) (by kernel_rfl) (by repeat (first | exact List.Sublist.refl _ | exact List.nil_sublist _ | refine List.Sublist.cons_cons _ ?_ | refine List.Sublist.cons _ ?_)) (yld_int rfl rfl (fun w => bin_sub w (sub_pow hfew))) rfl ?_
  refine any_take (listed' := [true, true, true, true, false, false, false, false, false, false, false, false, false].toArray) 3 rfl rfl rfl (by kernel_rfl) (by kernel_rfl) (by kernel_rfl) (by repeat (first | exact List.Sublist.refl _ | exact List.nil_sublist _ | refine List.Sublist.cons_cons _ ?_ | refine List.Sublist.cons _ ?_)) (yld_int rfl rfl (fun w => bin_andNot w (i64_andNot 63 (2 ^ few - 1) (by omega) (by omega)))) rfl ?_
  refine any_take (listed' := [true, true, true, true, true, false, false, false, false, false, false, false, false].toArray) 4 rfl rfl rfl (by kernel_rfl) (by kernel_rfl) (by kernel_rfl) (by repeat (first | exact List.Sublist.refl _ | exact List.nil_sublist _ | refine List.Sublist.cons_cons _ ?_ | refine List.Sublist.cons _ ?_)) (yld_move rfl) rfl ?_
  refine any_take (listed' := [true, true, true, true, true, true, false, false, false, false, false, false, false].toArray) 5 rfl rfl rfl (by kernel_rfl) (by kernel_rfl) (by kernel_rfl) (by repeat (first | exact List.Sublist.refl _ | exact List.nil_sublist _ | refine List.Sublist.cons_cons _ ?_ | refine List.Sublist.cons _ ?_)) (yld_move rfl) rfl ?_
  refine any_take (listed' := [true, true, true, true, true, true, false, true, false, false, false, false, false].toArray) 7 rfl rfl rfl (by kernel_rfl) (by kernel_rfl) (by kernel_rfl) (by repeat (first | exact List.Sublist.refl _ | exact List.nil_sublist _ | refine List.Sublist.cons_cons _ ?_ | refine List.Sublist.cons _ ?_)) (yld_move rfl) rfl ?_
  refine any_take (listed' := [true, true, true, true, true, true, false, true, true, false, false, false, false].toArray) 8 rfl rfl rfl (by kernel_rfl) (by kernel_rfl) (by kernel_rfl) (by repeat (first | exact List.Sublist.refl _ | exact List.nil_sublist _ | refine List.Sublist.cons_cons _ ?_ | refine List.Sublist.cons _ ?_)) (yld_move rfl) rfl ?_
  refine any_one (listed' := [true, true, true, true, true, true, true, true, true, false, false, false, false].toArray) 6 (by kernel_rfl) rfl rfl ?_
  refine lst_call_pul (X := Nat × Nat) (vs := [_, _]) hb (fun y => hatO nA nums.length nc (tk + few) (y.1)) (fun y => y.1 < 18446744073709551616 ∧ y.2 < 2 ^ few) (fun y => .int .i64 (y.2 : Int)) rfl rfl F.ent63 (fun a w ha => (FaultsOf_c (C := ⟨Tryd.prog, B, w0, _, _⟩) rfl hB hN (tk := tk) (st := st) (few := few) (by omega) hst hfew ha).mono (fun e w' h => by obtain ⟨s', x, h1, h2, h3, h4⟩ := h; exact ⟨(s', x), ⟨h1, h2⟩, h3, h4⟩)) ?_
  rintro ⟨s1, f1⟩ ⟨hs1, hf1⟩
  dsimp only at hs1 hf1 ⊢
  have hlf1 : f1 < 64 := few64 hf1 hfew
  refine lst_nil ?_
  refine any_next (by repeat (first | exact List.Sublist.refl _ | exact List.nil_sublist _ | refine List.Sublist.cons_cons _ ?_ | refine List.Sublist.cons _ ?_)) ?_
  refine any_one (listed' := [true, true, true, true, true, true, true, true, true, true, false, false, false].toArray) 9 (by kernel_rfl) rfl rfl ?_
  refine lst_call_pul (X := Nat × Nat) (vs := [_, _]) hb (fun y => hatO nA nums.length nc (tk + few + few) (y.1)) (fun y => y.1 < 18446744073709551616 ∧ y.2 < 2 ^ few) (fun y => .int .i64 (y.2 : Int)) rfl rfl F.ent63 (fun a w ha => (FaultsOf_c (C := ⟨Tryd.prog, B, w0, _, _⟩) rfl hB hN (tk := tk + few) (st := s1) (few := few) (by omega) hs1 hfew ha).mono (fun e w' h => by obtain ⟨s', x, h1, h2, h3, h4⟩ := h; exact ⟨(s', x), ⟨h1, h2⟩, h3, h4⟩)) ?_
  rintro ⟨s2, f2⟩ ⟨hs2, hf2⟩
  dsimp only at hs2 hf2 ⊢
  have hlf2 : f2 < 64 := few64 hf2 hfew
  refine lst_nil ?_
  refine any_next (by repeat (first | exact List.Sublist.refl _ | exact List.nil_sublist _ | refine List.Sublist.cons_cons _ ?_ | refine List.Sublist.cons _ ?_)) ?_
  refine any_take (listed' := [true, true, true, true, true, true, true, true, true, true, true, false, false].toArray) 10 rfl rfl rfl (by kernel_rfl) (by kernel_rfl) (by kernel_rfl) (by repeat (first | exact List.Sublist.refl _ | exact List.nil_sublist _ | refine List.Sublist.cons_cons _ ?_ | refine List.Sublist.cons _ ?_)) (yld_int rfl rfl (fun w => bin_and w (i64_and f1 f2 (by omega) (by omega)))) rfl ?_
  have hl12 : f1 &&& f2 < 64 := and64 hlf1
  have hln : nn 63 (2 ^ few - 1) < 64 := nn64 (by omega)
  refine any_take (listed' := [true, true, true, true, true, true, true, true, true, true, true, true, false].toArray) 11 rfl rfl rfl (by kernel_rfl) (by kernel_rfl) (by kernel_rfl) (by repeat (first | exact List.Sublist.refl _ | exact List.nil_sublist _ | refine List.Sublist.cons_cons _ ?_ | refine List.Sublist.cons _ ?_)) (yld_int rfl rfl (fun w => bin_or w (i64_or (nn 63 (2 ^ few - 1)) (f1 &&& f2) (by omega) (by omega)))) rfl ?_
  refine any_take (listed' := [true, true, true, true, true, true, true, true, true, true, true, true, true].toArray) 12 rfl rfl rfl (by kernel_rfl) (by kernel_rfl) (by kernel_rfl) (by repeat (first | exact List.Sublist.refl _ | exact List.nil_sublist _ | refine List.Sublist.cons_cons _ ?_ | refine List.Sublist.cons _ ?_)) (yld_assign rfl) rfl ?_
  refine any_done rfl (by kernel_rfl) ?_
  refine ex_then ?_
  refine cod_ret ?_
  exact ex_ret rfl (fun a w ha => res_one rfl rfl ha) (fun _ _ ha' => ⟨s2, _, hs2, or64 hln hl12, rfl, ha.back (ha'.pck (by repeat (first | exact Pck.nil _ | exact Pck.refl _ | (apply Pck.cons; focus ((repeat (first | exact Rem.here _ | apply Rem.there)); done)) | refine Pck.skip _ ?_)))⟩)

theorem Clear_c (f p : Nat) (hf : f < 64) (hp : p < 64) (w : World) : Calls Tryd.prog 37 #[.int .i64 (f : Int), .int .i64 (p : Int)] w fun e w' => e = .returned (.bool (decide (nn f p = 0))) ∧ Grew w w' [] := by
  refine enter (N := 9) [(0, .int .i64 (f : Int)), (1, .int .i64 (p : Int))] Tryd.func37 rfl Tryd.ntmps37 rfl rfl ?_
  refine cod_seq ?_
  refine cod_region ?_
  refine lst_assign rfl rfl ?_
  refine lst_nil ?_
  refine ex_then ?_
  refine cod_seq ?_
  refine cod_region ?_
  refine lst_move rfl rfl ?_
  refine lst_move rfl rfl ?_
  refine lst_int rfl rfl rfl (fun w => bin_andNot w (i64_andNot f p (by omega) (by omega))) ?_
  refine lst_int rfl rfl rfl bin_eql ?_
  refine lst_assign rfl rfl ?_
  refine lst_nil ?_
  refine ex_then ?_
  refine cod_ret ?_
  refine ex_ret rfl (fun a w ha => res_one rfl rfl ha) (fun a w ha => ?_)
  exact ⟨by rw [dec_zero], ha.grown (List.nil_sublist _)⟩

end Go.Proofs.YtofkhehcnfiopaaDoor.N
namespace Go.Proofs.YtofkhehcnfiopaaDoor.N
open Go Go.RowKit Go.Proofs
section
variable {C : Ctx} {fr : List (Nat × Value)} {hp hp' : List Res} {a : Act} {w : World} {ops : Array Oper} {Q : Exit → Act → World → Prop} {rest : List Oper}
  {d : Nat} {ty : TypeId} {pos : String} {after : Array Edge}
/-- Nothing is appended. -/
theorem lst_append_none {x y : Operand} {t e : TypeId} {p : Addr} {n c size bytes : Nat} {z : Value} (hd : Nat.blt d C.N = true)
    (hx : ev fr x = some (.slice (some p) n c)) (hy : ev fr y = some (.slice none 0 0)) (ht : C.P.underlying t = some (.slice e)) (hi : TI C.P e z size bytes) (hnc : n ≤ c)
    (k : Lst C ops Q rest ((d, .slice (some p) n c) :: fr) hp) :
    Lst C ops Q (⟨some d, .call { callee := .builtin .append, args := #[x, y], argTypes := #[t, t] }, ty, pos, after, none⟩ :: rest) fr hp := by
  obtain ⟨i, hi1, hi2, hi3, hi4⟩ := hi
  refine lst_value _ hd (fun a w ha => ⟨w, ?_, ha⟩) k
  have hr : (Builtin.append_ #[t, t] ty #[.slice (some p) n c, .slice none 0 0]).run C.P w = .ok (.slice (some p) n c) w := by
    simp [Builtin.append_, run_underlying ht, sizeOf, typeInfo, hi1, Builtin.lenOf, hnc, run_firstCells_none, storeCells]
  simp only [execOp, resolve, invoke, builtin, Sem.run_bind, Sem.run_pure, Result.andThen_ok, List.map_toArray, List.map_cons, List.map_nil, ha.eval hx, ha.eval hy, hr]
/-- A slice's literal is a row. -/
theorem At.as_rowN (ha : At C fr hp a w) {b e size n : Nat} {l : List Value} (hl : l.length = n * size) (hn : n ≤ maxLen) (hu : Upd (.blk b (.cells l.toArray e (0, 0))) (.row e size (some ⟨b, 0, none⟩) n n l) hp hp') : At C fr hp' a w := by
  have hb := ha.own _ hu.mem
  refine ha.turn hu (⟨rfl, rfl, rfl, Nat.le_refl _, fun _ _ _ => rfl⟩ : w.grownBy w _) ⟨hl, .inr ⟨b, n, l.toArray, rfl, hb.1, hb.2, Nat.le_refl _, hn, by simp [hl], by simp [← hl]⟩⟩ (fun k hk => .inl ?_)
  exact hk
theorem lst_as_rowN {l : List Oper} {b e : Nat} (size n : Nat) {cs : List Value} (hl : cs.length = n * size) (hn : n ≤ maxLen) (hu : Upd (.blk b (.cells cs.toArray e (0, 0))) (.row e size (some ⟨b, 0, none⟩) n n cs) hp hp') (h : Lst C ops Q l fr hp') : Lst C ops Q l fr hp := fun a w ha => h a w (ha.as_rowN hl hn hu)
end
/-- A list of numbers, somewhere. -/
structure Sl where
  A : Option Addr
  c : Nat
  l : List Nat
def Sl.val (s : Sl) : Value := .slice s.A s.l.length s.c
def Sl.res (s : Sl) : Res := .row 3 1 s.A s.l.length s.c (ints s.l)
theorem Pck.snoc (Ms : List Sl) (s : Sl) (R : List Res) : Pck ((Ms ++ [s]).map Sl.res ++ R) (s.res :: (Ms.map Sl.res ++ R)) := by
  refine .perm ?_ (.refl _)
  rw [List.map_append, List.append_assoc]
  exact List.perm_middle.symm
/-- All lists of k numbers below n, in their order. -/
def strs (n : Nat) : Nat → List (List Nat)
  | 0 => [[]]
  | k + 1 => (strs n k).flatMap fun x => (List.range n).map fun y => x ++ [y]
theorem strs_len (n : Nat) : ∀ k, (strs n k).length = n ^ k
  | 0 => rfl
  | k + 1 => by
    have h : ∀ l : List (List Nat), (l.flatMap fun x => (List.range n).map fun y => x ++ [y]).length = l.length * n := by
      intro l
      induction l with
      | nil => simp
      | cons a l ih => rw [List.flatMap_cons, List.length_append, ih]; simp [Nat.add_mul, Nat.add_comm]
    show ((strs n k).flatMap _).length = _
    rw [h, strs_len n k, Nat.pow_succ]
end Go.Proofs.YtofkhehcnfiopaaDoor.N
namespace Go.Proofs.YtofkhehcnfiopaaDoor.N
open Go Go.RowKit Go.Proofs

theorem follows_c (A wA : Option Addr) (c wc f : Nat) (ags : List Ag) (way : List Nat) (hok : Oks ags) (hf : f < 64) (hwl : way.length ≤ 1000) (w : World) (hA : RdL Ag.cells 5 w A ags) (hW : RdL ncell 1 w wA way) : Calls Tryd.prog 36 #[.slice A ags.length c, .int .i64 (f : Int), .slice wA way.length wc] w fun e w' => e = .returned (.tuple #[.int .i64 (followV (followN ags f way) : Int), .bool (followN ags f way).isSome]) ∧ Grew w w' [] := by
  refine enter (N := 59) [(0, .slice A ags.length c), (1, .int .i64 (f : Int)), (2, .slice wA way.length wc)] Tryd.func36 rfl Tryd.ntmps36 rfl rfl ?_
  refine cod_seq ?_
  refine cod_region ?_
  refine lst_assign rfl rfl ?_
  refine lst_assign rfl rfl ?_
  refine lst_nil ?_
  refine ex_then ?_
  refine cod_seq ?_
  refine cod_seq ?_
  refine cod_region ?_
  refine lst_assign rfl rfl ?_
  refine lst_nil ?_
  refine ex_then ?_
  refine cod_block ?_
  refine cod_loop (G := Nat × Nat) (fun g => g.1 ≤ way.length ∧ g.2 < 64 ∧ followN ags f way = followN ags g.2 (way.drop g.1)) (fun g => way.length - g.1) (fun g => [(0, .slice A ags.length c), (1, .int .i64 (g.2 : Int)), (2, .slice wA way.length wc), (8, .int .i64 (g.1 : Int))]) (fun g => []) (0, f) ⟨Nat.zero_le _, hf, rfl⟩ (by repeat (first | exact Sub.nil _ | refine Sub.cons rfl ?_)) (by repeat (first | exact List.Sublist.refl _ | exact List.nil_sublist _ | refine List.Sublist.cons_cons _ ?_ | refine List.Sublist.cons _ ?_)) ?_
  rintro ⟨k, fk⟩ hk
  (try dsimp only at hk ⊢)
  refine cod_seq ?_
  refine cod_seq ?_
  refine cod_region ?_
  refine lst_move rfl rfl ?_
  refine lst_move rfl rfl ?_
  refine lst_len rfl rfl Tryd.underlying25 ?_
  refine lst_int rfl rfl rfl bin_lss ?_
  refine lst_nil ?_
  refine ex_then ?_
  refine cod_cond_dec rfl (fun hc0 => ?_) (fun hc0 => ?_)
  · skip
    have hk' : k < way.length := by omega
    obtain ⟨b, o, rfl, hb, hcell⟩ := hW (by omega)
    obtain ⟨i, hwi⟩ : ∃ i, way[k]? = some i := ⟨_, List.getElem?_eq_getElem hk'⟩
    have hst := followN_step (ags := ags) (f := fk) hwi
    refine cod_skip ?_
    refine ex_then ?_
    refine cod_seq ?_
    refine cod_block ?_
    refine cod_seq ?_
    refine cod_seq ?_
    refine cod_region ?_
    refine lst_move rfl rfl ?_
    refine lst_move rfl rfl ?_
    refine lst_index (j := k) rfl rfl rfl Tryd.underlying25 F.ti3 rfl hk' ?_
    refine lst_load_at (v := .int .i64 (i : Int)) rfl rfl F.one3 (fun a w ha => ha.old (hcell k i hwi 0 _ rfl) hb) ?_
    refine lst_int (v := .bool false) rfl rfl rfl (fun w => by rw [bin_lss, decide_eq_false (by omega)]) ?_
    refine lst_move rfl rfl ?_
    refine lst_on rfl rfl ?_
    refine lst_move rfl rfl ?_
    refine lst_on rfl rfl ?_
    refine lst_move rfl rfl ?_
    refine lst_on rfl rfl ?_
    refine lst_index (j := k) rfl rfl rfl Tryd.underlying25 F.ti3 rfl hk' ?_
    refine lst_on rfl rfl ?_
    refine lst_load_at (v := .int .i64 (i : Int)) rfl rfl F.one3 (fun a w ha => ha.old (hcell k i hwi 0 _ rfl) hb) ?_
    refine lst_on rfl rfl ?_
    refine lst_move rfl rfl ?_
    refine lst_on rfl rfl ?_
    refine lst_len rfl rfl Tryd.underlying22 ?_
    refine lst_on rfl rfl ?_
    refine lst_int rfl rfl rfl bin_geq ?_
    refine lst_pick_false rfl rfl rfl ?_
    refine lst_nil ?_
    refine ex_then ?_
    refine cod_cond_dec rfl (fun hc1 => ?_) (fun hc1 => ?_)
    · skip
      refine cod_seq ?_
      refine cod_region ?_
      refine lst_assign rfl rfl ?_
      refine lst_assign rfl rfl ?_
      refine lst_nil ?_
      refine ex_then ?_
      refine cod_ret ?_
      refine ex_then_ret ?_
      refine ex_block_ret ?_
      refine ex_then_ret ?_
      refine ex_then_ret ?_
      refine ex_block_ret ?_
      refine ex_then_ret ?_
      have e1 : followN ags f way = none := by rw [hk.2.2, hst, if_neg (by omega)]
      exact ex_ret rfl (fun a w ha => res_two rfl rfl rfl ha) (fun a w ha => ⟨by rw [e1]; rfl, ha.grown (List.nil_sublist _)⟩)
    · skip
      have hi' : i < ags.length := by omega
      obtain ⟨b', o', rfl, hb', hcell'⟩ := hA (by omega)
      obtain ⟨x, hx⟩ : ∃ x, ags[i]? = some x := ⟨_, List.getElem?_eq_getElem hi'⟩
      have hxo : x.ok := hok.2 x (List.mem_of_getElem? hx)
      have hxd : ags.getD i default = x := by rw [List.getD_eq_getElem?_getD, hx]; rfl
      rw [hxd] at hst
      have hfk := hk.2.1
      have hx1 := hxo.needs
      have hx2 := hxo.no
      have hx3 := hxo.takes
      have hx4 := hxo.leaves
      refine cod_skip ?_
      refine ex_then ?_
      refine cod_seq ?_
      refine cod_region ?_
      refine lst_move rfl rfl ?_
      refine lst_move rfl rfl ?_
      refine lst_move rfl rfl ?_
      refine lst_index (j := k) rfl rfl rfl Tryd.underlying25 F.ti3 rfl hk' ?_
      refine lst_load_at (v := .int .i64 (i : Int)) rfl rfl F.one3 (fun a w ha => ha.old (hcell k i hwi 0 _ rfl) hb) ?_
      refine lst_index (j := i) rfl rfl rfl Tryd.underlying22 F.ti24 rfl hi' ?_
      refine lst_loadN_at (l := [.int .i64 (x.needs : Int), .int .i64 (x.no : Int), .int .i64 (x.takes : Int), .int .i64 (x.leaves : Int), .int .i64 (x.cost : Int)]) rfl rfl F.agg24 F.ti24 rfl (fun a w ha j u hu => ha.old (hcell' i x hx j u hu) hb') ?_
      refine lst_alloc rfl F.ti24 ?_
      intro b9
      refine lst_store rfl rfl F.ti24 rfl ?_
      refine lst_nil ?_
      refine ex_then ?_
      refine cod_seq ?_
      refine cod_seq ?_
      refine cod_region ?_
      refine lst_cut1 14 50 (.bool (!(mayN x fk))) ?_ ?_
      · skip
        refine lst_move rfl rfl ?_
        refine lst_field_z rfl rfl F.fi24_0 F.ti3 ?_
        refine lst_load rfl rfl F.one3 ?_
        refine lst_int rfl rfl rfl (fun w => bin_and w (i64_and fk x.needs (by omega) (by omega))) ?_
        refine lst_field_z rfl rfl F.fi24_0 F.ti3 ?_
        refine lst_load rfl rfl F.one3 ?_
        refine lst_int rfl rfl rfl bin_neq ?_
        refine lst_move rfl rfl ?_
        refine lst_split (t := 44) rfl (fun hg44 => ?_) (fun hg44 => ?_)
        · skip
          refine lst_off rfl rfl rfl ?_
          refine lst_off rfl rfl rfl ?_
          refine lst_off rfl rfl rfl ?_
          refine lst_off rfl rfl rfl ?_
          refine lst_off rfl rfl rfl ?_
          refine lst_pick_true rfl rfl rfl ?_
          refine lst_nil ?_
          exact ex_cut (.cons (by rw [may_and]; simp only [ne_eq, Int.ofNat_inj] at hg44; simp [look, hg44]; try omega) (by repeat (first | exact Sub.nil _ | refine Sub.cons rfl ?_))) (by repeat (first | exact List.Sublist.refl _ | exact List.nil_sublist _ | refine List.Sublist.cons_cons _ ?_ | refine List.Sublist.cons _ ?_))
        · skip
          refine lst_on rfl rfl ?_
          refine lst_move rfl rfl ?_
          refine lst_on rfl rfl ?_
          refine lst_field_z rfl rfl F.fi24_1 F.ti3 ?_
          refine lst_on rfl rfl ?_
          refine lst_load rfl rfl F.one3 ?_
          refine lst_on rfl rfl ?_
          refine lst_int rfl rfl rfl (fun w => bin_and w (i64_and fk x.no (by omega) (by omega))) ?_
          refine lst_on rfl rfl ?_
          refine lst_int rfl rfl rfl bin_neq ?_
          refine lst_pick_false rfl rfl rfl ?_
          refine lst_nil ?_
          exact ex_cut (.cons (by rw [may_and]; simp only [ne_eq, Int.ofNat_inj] at hg44; simp [look, hg44]; try omega) (by repeat (first | exact Sub.nil _ | refine Sub.cons rfl ?_))) (by repeat (first | exact List.Sublist.refl _ | exact List.nil_sublist _ | refine List.Sublist.cons_cons _ ?_ | refine List.Sublist.cons _ ?_))
      refine lst_nil ?_
      refine ex_then ?_
      refine cod_cond_bool rfl (fun hc2 => ?_) (fun hc2 => ?_)
      · skip
        refine cod_seq ?_
        refine cod_region ?_
        refine lst_assign rfl rfl ?_
        refine lst_assign rfl rfl ?_
        refine lst_nil ?_
        refine ex_then ?_
        refine cod_ret ?_
        refine ex_then_ret ?_
        refine ex_block_ret ?_
        refine ex_then_ret ?_
        refine ex_then_ret ?_
        refine ex_block_ret ?_
        refine ex_then_ret ?_
        have hm : mayN x fk = false := by simpa using hc2
        have e1 : followN ags f way = none := by rw [hk.2.2, hst, if_neg (by rw [hm]; simp)]
        exact ex_ret rfl (fun a w ha => res_two rfl rfl rfl ha) (fun a w ha => ⟨by rw [e1]; rfl, ha.grown (List.nil_sublist _)⟩)
      · skip
        have hm : mayN x fk = true := by simpa using hc2
        rw [if_pos ⟨hi', hm⟩] at hst
        have hnn : nn fk x.takes < 64 := nn64 hfk
        refine cod_skip ?_
        refine ex_then ?_
        refine cod_region ?_
        refine lst_move rfl rfl ?_
        refine lst_field_z rfl rfl F.fi24_2 F.ti3 ?_
        refine lst_load rfl rfl F.one3 ?_
        refine lst_int rfl rfl rfl (fun w => bin_andNot w (i64_andNot fk x.takes (by omega) (by omega))) ?_
        refine lst_field_z rfl rfl F.fi24_3 F.ti3 ?_
        refine lst_load rfl rfl F.one3 ?_
        refine lst_int rfl rfl rfl (fun w => bin_or w (i64_or (nn fk x.takes) x.leaves (by omega) (by omega))) ?_
        refine lst_assign rfl rfl ?_
        refine lst_nil ?_
        refine ex_block_normal ?_
        refine ex_then ?_
        refine cod_region ?_
        refine lst_move rfl rfl ?_
        refine lst_int rfl rfl rfl (fun w => bin_add w (wrap_i64' _ (by omega) (by omega))) ?_
        refine lst_assign rfl rfl ?_
        refine lst_nil ?_
        refine ex_round (k + 1, putN x fk) ⟨by omega, putN_lt hxo hfk, by rw [hk.2.2, hst]⟩ (by (try dsimp only); omega) (by repeat (first | exact Sub.nil _ | refine Sub.cons rfl ?_)) (by repeat (first | exact List.Sublist.refl _ | exact List.nil_sublist _ | refine List.Sublist.cons_cons _ ?_ | refine List.Sublist.cons _ ?_))
  · skip
    refine cod_exit ?_
    refine ex_then_exit ?_
    refine ex_then_exit ?_
    refine ex_block_exit ?_
    refine ex_then ?_
    refine cod_seq ?_
    refine cod_region ?_
    refine lst_move rfl rfl ?_
    refine lst_assign rfl rfl ?_
    refine lst_assign rfl rfl ?_
    refine lst_nil ?_
    refine ex_then ?_
    refine cod_ret ?_
    obtain rfl : k = way.length := by omega
    have e1 : followN ags f way = some fk := by rw [hk.2.2, List.drop_length]; rfl
    exact ex_ret rfl (fun a w ha => res_two rfl rfl rfl ha) (fun a w ha => ⟨by rw [e1]; rfl, ha.grown (List.nil_sublist _)⟩)

theorem dup_nil  (w : World) : Calls Tryd.prog 27 #[.slice none 0 0] w fun e w' => ∃ A' c', e = .returned (.slice A' 0 c') ∧ Grew w w' [.row 3 1 A' 0 c' (ints [])] := by
  refine enter (N := 6) [(0, .slice none 0 0)] Tryd.func27 rfl Tryd.ntmps27 rfl rfl ?_
  refine cod_seq ?_
  refine cod_region ?_
  refine lst_assign rfl rfl ?_
  refine lst_nil ?_
  refine ex_then ?_
  refine cod_seq ?_
  refine cod_region ?_
  refine lst_lit0 rfl Tryd.underlying25 F.ti3 ?_
  intro b3
  refine lst_as_row 1 (.head _) ?_
  refine lst_move rfl rfl ?_
  refine lst_append_none rfl rfl rfl Tryd.underlying25 F.ti3 (Nat.le_refl _) ?_
  refine lst_assign rfl rfl ?_
  refine lst_nil ?_
  refine ex_then ?_
  refine cod_ret ?_
  exact ex_ret rfl (fun a w ha => res_one rfl rfl ha) (fun a w ha => ⟨_, 0, rfl, ha.grown (by repeat (first | exact List.Sublist.refl _ | exact List.nil_sublist _ | refine List.Sublist.cons_cons _ ?_ | refine List.Sublist.cons _ ?_))⟩)

theorem dup_some (p : Addr) (c : Nat) (l : List Nat) (hl : l.length ≤ 400000) (w : World) (hA : RdL ncell 1 w (some p) l) : Calls Tryd.prog 27 #[.slice (some p) l.length c] w fun e w' => ∃ A' c', e = .returned (.slice A' l.length c') ∧ Grew w w' [.row 3 1 A' l.length c' (ints l)] := by
  refine enter (N := 6) [(0, .slice (some p) l.length c)] Tryd.func27 rfl Tryd.ntmps27 rfl rfl ?_
  refine cod_seq ?_
  refine cod_region ?_
  refine lst_assign rfl rfl ?_
  refine lst_nil ?_
  refine ex_then ?_
  refine cod_seq ?_
  refine cod_region ?_
  refine lst_lit0 rfl Tryd.underlying25 F.ti3 ?_
  intro b3
  refine lst_as_row 1 (.head _) ?_
  refine lst_move rfl rfl ?_
  refine lst_append_ints rfl rfl rfl Tryd.underlying25 F.ti3 rfl (fun a w ha j u hu => (hA.later ha.below).ints_at hu) rfl (by unfold maxLen; omega) (by omega) ?_
  intro A1 c1
  refine lst_assign rfl rfl ?_
  refine lst_nil ?_
  refine ex_then ?_
  refine cod_ret ?_
  simp only [Nat.zero_add, List.nil_append]
  exact ex_ret rfl (fun a w ha => res_one rfl rfl ha) (fun a w ha => ⟨A1, c1, rfl, ha.grown (by repeat (first | exact List.Sublist.refl _ | exact List.nil_sublist _ | refine List.Sublist.cons_cons _ ?_ | refine List.Sublist.cons _ ?_))⟩)

end Go.Proofs.YtofkhehcnfiopaaDoor.N
namespace Go.Proofs.YtofkhehcnfiopaaDoor.N
open Go Go.RowKit Go.Proofs
theorem Pck.of_sub {t l : List Res} (h : t.Sublist l) : Pck t l := by
  induction h with
  | slnil => exact .nil _
  | cons x _ ih => exact .skip x ih
  | cons_cons x _ ih => exact .cons (.here _) ih
theorem Pck.pre (l R : List Res) : Pck (l ++ []) (l ++ R) := .of_sub (by rw [List.append_nil]; exact List.sublist_append_left l R)
theorem Pck.snoc2 {s : Sl} {r : Res} (h : s.res = r) (Ms : List Sl) (R : List Res) : Pck ((Ms ++ [s]).map Sl.res ++ R) (r :: (Ms.map Sl.res ++ R)) := by
  subst h; exact Pck.snoc Ms s R
theorem row_none {C : Ctx} {fr : List (Nat × Value)} {hp : List Res} {a : Act} {w : World} (ha : At C fr hp a w) {e size n c : Nat} {A : Option Addr} {xs : List Value} (hm : Res.row e size A n c xs ∈ hp) (hA : A = none) : n = 0 ∧ c = 0 := by
  subst hA
  rcases (ha.own _ hm).2 with ⟨h1, h2⟩ | ⟨g, cap, cur, h1, _⟩
  · injection h1 with _ h3 h4
    exact ⟨h2, h4⟩
  · cases h1
theorem dup_c (A : Option Addr) (c : Nat) (l : List Nat) (hl : l.length ≤ 400000) (w : World) (hn : A = none → l = [] ∧ c = 0) (hA : RdL ncell 1 w A l) :
    Calls Tryd.prog 27 #[.slice A l.length c] w fun e w' => ∃ A' c', e = .returned (.slice A' l.length c') ∧ Grew w w' [.row 3 1 A' l.length c' (ints l)] := by
  cases A with
  | none =>
    obtain ⟨rfl, rfl⟩ := hn rfl
    exact dup_nil w
  | some p => exact dup_some p c l hl w hA
theorem strs_mem {n : Nat} : ∀ {k : Nat} {x : List Nat}, x ∈ strs n k → x.length = k ∧ ∀ i ∈ x, i < n
  | 0, x, h => by
    simp [strs] at h
    subst h
    exact ⟨rfl, by simp⟩
  | k + 1, x, h => by
    unfold strs at h
    obtain ⟨y, hy, h2⟩ := List.mem_flatMap.1 h
    obtain ⟨z, hz, rfl⟩ := List.mem_map.1 h2
    obtain ⟨h3, h4⟩ := strs_mem hy
    refine ⟨by simp [h3], fun i hi => ?_⟩
    rcases List.mem_append.1 hi with h5 | h5
    · exact h4 i h5
    · simp at h5; subst h5; exact List.mem_range.1 hz
/-- A list, and one number more. -/
def extS (n : Nat) (x : List Nat) : List (List Nat) := (List.range n).map fun y => x ++ [y]
theorem strs_succ (n k : Nat) : strs n (k + 1) = (strs n k).flatMap (extS n) := rfl
theorem strs_le {n k : Nat} (hn : n ≤ 4) (hk : k ≤ 5) : (strs n k).length ≤ 1024 := by
  rw [strs_len]
  exact Nat.le_trans (Nat.pow_le_pow_left hn k) (show 4 ^ k ≤ 4 ^ 5 from Nat.pow_le_pow_right (by omega) hk)
theorem vals_get {Ls : List Sl} {x : Nat} {s : Sl} (h : Ls[x]? = some s) : (Ls.map Sl.val)[x * 1]? = some s.val := by
  rw [Nat.mul_one, List.getElem?_map, h]; rfl
end Go.Proofs.YtofkhehcnfiopaaDoor.N
namespace Go.Proofs.YtofkhehcnfiopaaDoor.N
open Go Go.RowKit Go.Proofs
theorem F.ent27 : Enters Tryd.prog 27 := enters_of Tryd.func27 rfl (by kernel_rfl)
theorem Strings_c (n k : Nat) (hn : n ≤ 4) (hk : k ≤ 5) (w : World) : Calls Tryd.prog 38 #[.int .i64 (n : Int), .int .i64 (k : Int)] w fun e w' => ∃ (Ls : List Sl) (A : Option Addr) (c : Nat), Ls.map Sl.l = strs n k ∧ e = .returned (.slice A Ls.length c) ∧ Grew w w' (.row 25 1 A Ls.length c (Ls.map Sl.val) :: Ls.map Sl.res) := by
  refine enter (N := 40) [(0, .int .i64 (n : Int)), (1, .int .i64 (k : Int))] Tryd.func38 rfl Tryd.ntmps38 rfl rfl ?_
  refine cod_seq ?_
  refine cod_region ?_
  refine lst_assign rfl rfl ?_
  refine lst_nil ?_
  refine ex_then ?_
  refine cod_seq ?_
  refine cod_region ?_
  refine lst_lit (vs := [(0, _)]) rfl rfl Tryd.underlying49 F.ti25 rfl rfl rfl ?_
  intro b10
  refine lst_as_rowN 1 1 rfl (by unfold maxLen; omega) (.head _) ?_
  refine lst_nilrow 3 1 ?_
  refine lst_assign rfl rfl ?_
  refine lst_nil ?_
  refine ex_then ?_
  refine cod_seq ?_
  refine cod_seq ?_
  refine cod_region ?_
  refine lst_assign rfl rfl ?_
  refine lst_nil ?_
  refine ex_then ?_
  refine cod_block ?_
  refine cod_loop' (G := Nat × Option Addr × Nat × List Sl) (fun g => g.1 ≤ k ∧ g.2.2.2.map Sl.l = strs n g.1) (fun g => k - g.1) (fun g => [(0, .int .i64 (n : Int)), (1, .int .i64 (k : Int)), (5, .slice g.2.1 g.2.2.2.length g.2.2.1), (6, .int .i64 (g.1 : Int))]) (fun g => .row 25 1 g.2.1 g.2.2.2.length g.2.2.1 (g.2.2.2.map Sl.val) :: (g.2.2.2.map Sl.res ++ [])) (0, some ⟨b10, 0, none⟩, 1, [⟨none, 0, []⟩]) ⟨Nat.zero_le _, rfl⟩ (by repeat (first | exact Sub.nil _ | refine Sub.cons rfl ?_)) (by (try simp only [List.map_cons, List.map_nil, List.cons_append, List.nil_append]); repeat (first | exact Pck.nil _ | exact Pck.refl _ | exact Pck.suffix _ _ | (apply Pck.cons; focus ((repeat (first | exact Rem.here _ | apply Rem.there)); done)) | refine Pck.skip _ ?_)) ?_
  rintro ⟨i, A, c, Ls⟩ hI
  dsimp only at hI ⊢
  refine cod_seq ?_
  refine cod_seq ?_
  refine cod_region ?_
  refine lst_move rfl rfl ?_
  refine lst_move rfl rfl ?_
  refine lst_int rfl rfl rfl bin_lss ?_
  refine lst_nil ?_
  refine ex_then ?_
  refine cod_cond_dec rfl (fun hc0 => ?_) (fun hc0 => ?_)
  · skip
    have hik : i < k := by omega
    have hLl : Ls.length = (strs n i).length := by rw [← hI.2, List.length_map]
    have hL1 := strs_le (n := n) (k := i) hn (by omega)
    refine cod_skip ?_
    refine ex_then ?_
    refine cod_seq ?_
    refine cod_block ?_
    refine cod_seq ?_
    refine cod_region ?_
    refine lst_assign rfl rfl ?_
    refine lst_nil ?_
    refine ex_then ?_
    refine cod_seq ?_
    refine cod_seq ?_
    refine cod_region ?_
    refine lst_assign rfl rfl ?_
    refine lst_nil ?_
    refine ex_then ?_
    refine cod_block ?_
    refine cod_nil 25 1 ?_
    refine cod_loop' (G := Nat × Option Addr × Nat × List Sl) (fun g => g.1 ≤ Ls.length ∧ g.2.2.2.map Sl.l = ((strs n i).take g.1).flatMap (extS n) ∧ g.2.2.2.length = g.1 * n) (fun g => Ls.length - g.1) (fun g => [(0, .int .i64 (n : Int)), (1, .int .i64 (k : Int)), (5, .slice A Ls.length c), (6, .int .i64 (i : Int)), (7, .slice g.2.1 g.2.2.2.length g.2.2.1), (8, .int .i64 (g.1 : Int))]) (fun g => .row 25 1 g.2.1 g.2.2.2.length g.2.2.1 (g.2.2.2.map Sl.val) :: .row 25 1 A Ls.length c (Ls.map Sl.val) :: (g.2.2.2.map Sl.res ++ (Ls.map Sl.res ++ []))) (0, none, 0, []) ⟨Nat.zero_le _, by simp, by simp⟩ (by repeat (first | exact Sub.nil _ | refine Sub.cons rfl ?_)) (by (try simp only [List.map_cons, List.map_nil, List.cons_append, List.nil_append]); repeat (first | exact Pck.nil _ | exact Pck.refl _ | exact Pck.suffix _ _ | (apply Pck.cons; focus ((repeat (first | exact Rem.here _ | apply Rem.there)); done)) | refine Pck.skip _ ?_)) ?_
    rintro ⟨x, A2, c2, Ms⟩ hM
    dsimp only at hM ⊢
    refine cod_seq ?_
    refine cod_seq ?_
    refine cod_region ?_
    refine lst_move rfl rfl ?_
    refine lst_move rfl rfl ?_
    refine lst_len rfl rfl Tryd.underlying49 ?_
    refine lst_int rfl rfl rfl bin_lss ?_
    refine lst_nil ?_
    refine ex_then ?_
    refine cod_cond_dec rfl (fun hc1 => ?_) (fun hc1 => ?_)
    · skip
      have hx' : x < Ls.length := by omega
      obtain ⟨s, hs⟩ : ∃ s, Ls[x]? = some s := ⟨_, List.getElem?_eq_getElem hx'⟩
      have hsx : (strs n i)[x]? = some s.l := by rw [← hI.2, List.getElem?_map, hs]; rfl
      have hsm : s ∈ Ls := List.mem_of_getElem? hs
      have hsl := (strs_mem (List.mem_of_getElem? hsx)).1
      refine cod_skip ?_
      refine ex_then ?_
      refine cod_seq ?_
      refine cod_block ?_
      refine cod_seq ?_
      refine cod_region ?_
      refine lst_assign rfl rfl ?_
      refine lst_nil ?_
      refine ex_then ?_
      refine cod_block ?_
      refine cod_loop' (G := Nat × Option Addr × Nat × List Sl) (fun g => g.1 ≤ n ∧ g.2.2.2.map Sl.l = ((strs n i).take x).flatMap (extS n) ++ (List.range g.1).map (fun y => s.l ++ [y]) ∧ g.2.2.2.length = x * n + g.1) (fun g => n - g.1) (fun g => [(0, .int .i64 (n : Int)), (1, .int .i64 (k : Int)), (5, .slice A Ls.length c), (6, .int .i64 (i : Int)), (7, .slice g.2.1 g.2.2.2.length g.2.2.1), (8, .int .i64 (x : Int)), (9, .int .i64 (g.1 : Int))]) (fun g => .row 25 1 g.2.1 g.2.2.2.length g.2.2.1 (g.2.2.2.map Sl.val) :: .row 25 1 A Ls.length c (Ls.map Sl.val) :: (g.2.2.2.map Sl.res ++ (Ls.map Sl.res ++ []))) (0, A2, c2, Ms) ⟨Nat.zero_le _, by rw [hM.2.1]; simp, by rw [hM.2.2]; rfl⟩ (by repeat (first | exact Sub.nil _ | refine Sub.cons rfl ?_)) (by repeat (first | exact Pck.nil _ | exact Pck.refl _ | (apply Pck.cons; focus ((repeat (first | exact Rem.here _ | apply Rem.there)); done)) | refine Pck.skip _ ?_)) ?_
      rintro ⟨y, A3, c3, Ns⟩ hN
      dsimp only at hN ⊢
      refine cod_seq ?_
      refine cod_seq ?_
      refine cod_region ?_
      refine lst_move rfl rfl ?_
      refine lst_move rfl rfl ?_
      refine lst_int rfl rfl rfl bin_lss ?_
      refine lst_nil ?_
      refine ex_then ?_
      refine cod_cond_dec rfl (fun hc2 => ?_) (fun hc2 => ?_)
      · skip
        have hxn : x * n ≤ 1024 * 4 := Nat.mul_le_mul (by omega) hn
        have hNl := hN.2.2
        refine cod_skip ?_
        refine ex_then ?_
        refine cod_seq ?_
        refine cod_block ?_
        refine cod_region ?_
        refine lst_move rfl rfl ?_
        refine lst_move rfl rfl ?_
        refine lst_move rfl rfl ?_
        refine lst_index_row (j := x) rfl rfl rfl Tryd.underlying49 F.ti25 rfl hx' rfl rfl ?_
        intro gA hgA
        refine lst_load_row (v := .slice s.A s.l.length s.c) rfl rfl F.one25 hgA (vals_get hs) ?_
        refine lst_fn (X := Option Addr × Nat) (vs := [_]) (p := fun _ => True) (val := fun y => .slice y.1 s.l.length y.2) (rs := fun y => [.row 3 1 y.1 s.l.length y.2 (ints s.l)]) rfl rfl F.ent27 (fun a w ha => by
          have hm : Res.row 3 1 s.A s.l.length s.c (ints s.l) ∈ Ls.map Sl.res := List.mem_map.2 ⟨s, hsm, rfl⟩
          exact (dup_c s.A s.c s.l (by omega) w (fun h => by obtain ⟨h1, h2⟩ := row_none ha (e := 3) (size := 1) (n := s.l.length) (c := s.c) (xs := ints s.l) (by simp [hm]) h; exact ⟨List.eq_nil_of_length_eq_zero h1, h2⟩) (row_reads ha (cells := ncell) (size := 1) (e := 3) (c := s.c) (n := s.l.length) (fun _ => rfl) (by rw [← ints_flat]; simp [hm]) rfl)).mono (fun e w' h => by obtain ⟨A', c', h1, h2⟩ := h; exact ⟨(A', c'), trivial, h1, h2⟩)) ?_
        rintro ⟨Ac, cc⟩ -
        dsimp only [List.cons_append, List.nil_append]
        refine lst_move rfl rfl ?_
        refine lst_lit (vs := [(0, _)]) rfl rfl Tryd.underlying25 F.ti3 rfl rfl rfl ?_
        intro b34
        refine lst_append rfl rfl rfl Tryd.underlying25 F.ti3 rfl rfl rfl (by unfold maxLen; omega) (by omega) ?_
        intro An cn
        refine lst_lit (vs := [(0, _)]) rfl rfl Tryd.underlying49 F.ti25 rfl rfl rfl ?_
        intro b36
        refine lst_append rfl rfl rfl Tryd.underlying49 F.ti25 rfl rfl rfl (by unfold maxLen; omega) (by omega) ?_
        intro A4 c4
        refine lst_assign rfl rfl ?_
        refine lst_nil ?_
        refine ex_block_normal ?_
        refine ex_then ?_
        refine cod_region ?_
        refine lst_move rfl rfl ?_
        refine lst_int rfl rfl rfl (fun w => bin_add w (wrap_i64' _ (by omega) (by omega))) ?_
        refine lst_assign rfl rfl ?_
        refine lst_nil ?_
        have hml : (Ns ++ [(⟨An, cn, s.l ++ [y]⟩ : Sl)]).length = Ns.length + 1 := by simp
        have hmv : (Ns ++ [(⟨An, cn, s.l ++ [y]⟩ : Sl)]).map Sl.val = Ns.map Sl.val ++ [.slice An (s.l.length + 1) cn] := by simp [Sl.val]
        have hsr : (⟨An, cn, s.l ++ [y]⟩ : Sl).res = .row 3 1 An (s.l.length + 1) cn (ints s.l ++ [.int .i64 (y : Int)]) := by simp [Sl.res, ints_snoc]
        refine ex_round' (y + 1, A4, c4, Ns ++ [(⟨An, cn, s.l ++ [y]⟩ : Sl)]) ⟨by omega, by rw [List.map_append, hN.2.1, List.range_succ]; simp, by rw [hml]; dsimp only; omega⟩ (by (try dsimp only); omega) (by dsimp only; rw [hml]; repeat (first | exact Sub.nil _ | refine Sub.cons rfl ?_)) (by dsimp only; rw [hml, hmv]; repeat (first | exact Pck.nil _ | exact Pck.refl _ | exact Pck.suffix _ _ | exact Pck.snoc2 hsr _ _ | (apply Pck.cons; focus ((repeat (first | exact Rem.here _ | apply Rem.there)); done)) | refine Pck.skip _ ?_))
      · skip
        obtain rfl : y = n := by omega
        refine cod_exit ?_
        refine ex_then_exit ?_
        refine ex_then_exit ?_
        refine ex_block_exit ?_
        refine ex_block_normal ?_
        refine ex_then ?_
        refine cod_region ?_
        refine lst_move rfl rfl ?_
        refine lst_int rfl rfl rfl (fun w => bin_add w (wrap_i64' _ (by omega) (by omega))) ?_
        refine lst_assign rfl rfl ?_
        refine lst_nil ?_
        refine ex_round' (x + 1, A3, c3, Ns) ⟨by omega, by rw [List.take_add_one, hsx, List.flatMap_append, hN.2.1]; simp [extS], by rw [hN.2.2, Nat.succ_mul]⟩ (by (try dsimp only); omega) (by (try dsimp only); repeat (first | exact Sub.nil _ | refine Sub.cons rfl ?_)) (by (try dsimp only); repeat (first | exact Pck.nil _ | exact Pck.refl _ | (apply Pck.cons; focus ((repeat (first | exact Rem.here _ | apply Rem.there)); done)) | refine Pck.skip _ ?_))
    · skip
      obtain rfl : x = Ls.length := by omega
      have hMs : Ms.map Sl.l = strs n (i + 1) := by rw [strs_succ, hM.2.1, List.take_of_length_le (by omega)]
      refine cod_exit ?_
      refine ex_then_exit ?_
      refine ex_then_exit ?_
      refine ex_block_exit ?_
      refine ex_then ?_
      refine cod_region ?_
      refine lst_move rfl rfl ?_
      refine lst_assign rfl rfl ?_
      refine lst_nil ?_
      refine ex_block_normal ?_
      refine ex_then ?_
      refine cod_region ?_
      refine lst_move rfl rfl ?_
      refine lst_int rfl rfl rfl (fun w => bin_add w (wrap_i64' _ (by omega) (by omega))) ?_
      refine lst_assign rfl rfl ?_
      refine lst_nil ?_
      refine ex_round' (i + 1, A2, c2, Ms) ⟨by omega, hMs⟩ (by (try dsimp only); omega) (by (try dsimp only); repeat (first | exact Sub.nil _ | refine Sub.cons rfl ?_)) (by (try dsimp only); repeat (first | exact Pck.nil _ | exact Pck.refl _ | exact Pck.suffix _ _ | exact Pck.pre _ _ | (apply Pck.cons; focus ((repeat (first | exact Rem.here _ | apply Rem.there)); done)) | refine Pck.skip _ ?_))
  · skip
    refine cod_exit ?_
    refine ex_then_exit ?_
    refine ex_then_exit ?_
    refine ex_block_exit ?_
    refine ex_then ?_
    refine cod_seq ?_
    refine cod_region ?_
    refine lst_move rfl rfl ?_
    refine lst_assign rfl rfl ?_
    refine lst_nil ?_
    refine ex_then ?_
    refine cod_ret ?_
    obtain rfl : i = k := by omega
    rw [List.append_nil]
    exact ex_ret rfl (fun a w ha => res_one rfl rfl ha) (fun a w ha => ⟨Ls, A, c, hI.2, rfl, ha.grown (List.Sublist.refl _)⟩)

end Go.Proofs.YtofkhehcnfiopaaDoor.N
namespace Go.Proofs.YtofkhehcnfiopaaDoor.N
open Go Go.RowKit Go.Proofs
theorem Pck.swap (l R : List Res) : Pck (R ++ l) (l ++ R) := .perm List.perm_append_comm (.refl _)
theorem agd_ok {ags : List Ag} (hok : Oks ags) {i : Nat} (hi : i < ags.length) : (ags.getD i default).ok := by
  rw [List.getD_eq_getElem?_getD, List.getElem?_eq_getElem hi]
  exact hok.2 _ (List.getElem_mem hi)
theorem followN_lt {ags : List Ag} (hok : Oks ags) : ∀ (way : List Nat) (f g : Nat), f < 64 → followN ags f way = some g → g < 64
  | [], f, g, hf, h => by
    have : f = g := Option.some.inj h
    omega
  | i :: l, f, g, hf, h => by
    unfold followN at h
    split at h
    · rename_i hc
      exact followN_lt hok l _ _ (putN_lt (agd_ok hok hc.1) hf) h
    · cases h
theorem followV_lt {ags : List Ag} (hok : Oks ags) {way : List Nat} {f : Nat} (hf : f < 64) : followV (followN ags f way) < 64 := by
  cases h : followN ags f way with
  | none => show 0 < 64; omega
  | some g => exact followN_lt hok way f g hf h
theorem run_two {ags : List Ag} : ∀ (v : List Nat) (a b c : Nat), run (stepT ags (usedAll ags.length) 2) (a, b, c) v = (followN ags a v).bind fun x => (followN ags b v).map fun y => (x, y, c)
  | [], a, b, c => rfl
  | i :: l, a, b, c => by
    show (stepT ags (usedAll ags.length) 2 (a, b, c) i).bind (fun t => run (stepT ags (usedAll ags.length) 2) t l) = _
    have hm : mayT (ags.getD i default) (a, b, c) 2 = (mayN (ags.getD i default) a && mayN (ags.getD i default) b) := by
      simp [mayT, List.range_succ, tget]
    unfold stepT followN
    rw [hm]
    by_cases hi : i < ags.length
    · have hu : (usedAll ags.length).testBit i = true := by rw [usedAll_bit]; simpa using hi
      cases h1 : mayN (ags.getD i default) a <;> cases h2 : mayN (ags.getD i default) b <;> simp [hi, hu]
      · exact run_two l _ _ _
    · simp [hi]
/-- A list of agents that clears both melts. -/
def clears (ags : List Ag) (a b p : Nat) (v : List Nat) : Bool :=
  (followN ags a v).isSome && (followN ags b v).isSome && decide (nn (followV (followN ags a v)) p = 0) && decide (nn (followV (followN ags b v)) p = 0)
theorem clears_run {ags : List Ag} {a b p : Nat} {v : List Nat} : clears ags a b p v = true ↔ ∃ t, run (stepT ags (usedAll ags.length) 2) (a, b, 0) v = some t ∧ clearT p t 2 = true := by
  rw [run_two]
  unfold clears
  have hc : ∀ x y : Nat, clearT p (x, y, 0) 2 = (decide (nn x p = 0) && decide (nn y p = 0)) := by
    intro x y
    simp [clearT, List.range_succ, tget]
  cases h1 : followN ags a v with
  | none => simp
  | some x =>
    cases h2 : followN ags b v with
    | none => simp
    | some y =>
      simp [hc, followV]
      try exact ⟨fun h => ⟨of_decide_eq_true h.1, of_decide_eq_true h.2⟩, fun h => ⟨decide_eq_true h.1, decide_eq_true h.2⟩⟩
/-! Lists in their order. -/
theorem strs_all {n : Nat} : ∀ {k : Nat} {v : List Nat}, Wd n v → v.length = k → v ∈ strs n k
  | 0, v, _, h => by
    obtain rfl : v = [] := List.eq_nil_of_length_eq_zero h
    simp [strs]
  | k + 1, v, hv, h => by
    rcases snoc_cases v with rfl | ⟨u, i, rfl⟩
    · simp at h
    · obtain ⟨h1, h2⟩ := Wd.snoc.1 hv
      unfold strs
      exact List.mem_flatMap.2 ⟨u, strs_all h1 (by simpa using h), List.mem_map.2 ⟨i, List.mem_range.2 h2, rfl⟩⟩
theorem strs_sorted (n : Nat) : ∀ k, (strs n k).Pairwise (fun u v => code n u < code n v)
  | 0 => by simp [strs]
  | k + 1 => by
    unfold strs
    rw [List.pairwise_flatMap]
    refine ⟨fun x _ => ?_, ?_⟩
    · rw [List.pairwise_map]
      refine List.Pairwise.imp ?_ List.pairwise_lt_range
      intro i j hij
      rw [code_snoc, code_snoc]
      omega
    · refine List.Pairwise.imp ?_ (strs_sorted n k)
      intro u v huv x hx y hy
      obtain ⟨i, hi, rfl⟩ := List.mem_map.1 hx
      obtain ⟨j, _, rfl⟩ := List.mem_map.1 hy
      rw [code_snoc, code_snoc]
      exact code_snoc_lt huv (List.mem_range.1 hi)
theorem strs_le_code {n k i j : Nat} {u v : List Nat} (hu : (strs n k)[i]? = some u) (hv : (strs n k)[j]? = some v) (hij : i ≤ j) : code n u ≤ code n v := by
  rcases Nat.lt_or_ge i j with h | h
  · obtain ⟨h1, e1⟩ := List.getElem?_eq_some_iff.1 hu
    obtain ⟨h2, e2⟩ := List.getElem?_eq_some_iff.1 hv
    have := List.pairwise_iff_getElem.1 (strs_sorted n k) i j h1 h2 h
    rw [e1, e2] at this
    omega
  · obtain rfl : i = j := by omega
    rw [hu] at hv
    cases hv
    exact Nat.le_refl _
/-- The first list of the enumeration that does it is the first word. -/
theorem first_of_strs {ags : List Ag} {a b p k i : Nat} {v : List Nat} (hk : k ≤ 5) (hv : (strs ags.length k)[i]? = some v) (hc : clears ags a b p v = true) (h0 : ∀ u, Wd ags.length u → u.length < k → clears ags a b p u = false)
    (h1 : ∀ j u, j < i → (strs ags.length k)[j]? = some u → clears ags a b p u = false) : IsFirst (stepT ags (usedAll ags.length) 2) ags.length 5 (a, b, 0) (fun t => clearT p t 2) v := by
  have hvl := (strs_mem (List.mem_of_getElem? hv)).1
  have hvw : Wd ags.length v := (strs_mem (List.mem_of_getElem? hv)).2
  refine ⟨clears_run.1 hc, .inr (by omega), fun u t hr hg _ => ?_⟩
  have hcu : clears ags a b p u = true := clears_run.2 ⟨t, hr, hg⟩
  have huw : Wd ags.length u := run_wd _ stepT_none u _ t hr
  rcases Nat.lt_trichotomy u.length k with hl | hl | hl
  · rw [h0 u huw hl] at hcu; cases hcu
  · obtain ⟨j, hj⟩ := List.getElem?_of_mem (strs_all huw hl)
    rcases Nat.lt_or_ge j i with h2 | h2
    · rw [h1 j u h2 hj] at hcu; cases hcu
    · exact strs_le_code hv hj h2
  · exact Nat.le_of_lt (code_lt_of_len ags.length u.length u v rfl (by omega) hvw)
end Go.Proofs.YtofkhehcnfiopaaDoor.N
namespace Go.Proofs.YtofkhehcnfiopaaDoor.N
open Go Go.RowKit Go.Proofs
theorem F.ent21 : Enters Tryd.prog 21 := enters_of Tryd.func21 rfl (by kernel_rfl)
theorem F.ent22 : Enters Tryd.prog 22 := enters_of Tryd.func22 rfl (by kernel_rfl)
theorem F.ent26 : Enters Tryd.prog 26 := enters_of Tryd.func26 rfl (by kernel_rfl)
theorem F.ent34 : Enters Tryd.prog 34 := enters_of Tryd.func34 rfl (by kernel_rfl)
theorem F.ent36 : Enters Tryd.prog 36 := enters_of Tryd.func36 rfl (by kernel_rfl)
theorem F.ent37 : Enters Tryd.prog 37 := enters_of Tryd.func37 rfl (by kernel_rfl)
theorem F.ent38 : Enters Tryd.prog 38 := enters_of Tryd.func38 rfl (by kernel_rfl)
theorem F.pl68 : Places Tryd.prog 68 [(0, 1), (1, 1), (2, 1)] := .inl ⟨_, Tryd.underlying68, by kernel_rfl⟩
theorem F.ti68 : TI Tryd.prog 68 (.agg [.slice none 0 0, .int .i64 0, .int .u64 0].toArray) 3 40 := TI.of (by kernel_rfl)
theorem NewHat_c (nA : Option Addr) (n nc : Nat) (w : World) : Calls Tryd.prog 22 #[.slice nA n nc] w fun e w' => ∃ b, e = .returned (.pointer (some ⟨b, 0, none⟩)) ∧ Grew w w' [.blk b (hatO nA n nc 0 11400714819323198485)] := by
  refine enter (N := 6) [(0, .slice nA n nc)] Tryd.func22 rfl Tryd.ntmps22 rfl rfl ?_
  refine cod_seq ?_
  refine cod_region ?_
  refine lst_assign rfl rfl ?_
  refine lst_nil ?_
  refine ex_then ?_
  refine cod_seq ?_
  refine cod_region ?_
  refine lst_move rfl rfl ?_
  refine lst_struct (vs := [(0, _), (2, _)]) (l' := [_, _, _]) rfl rfl F.ti68 F.pl68 (.cons rfl rfl (.cons rfl rfl (.nil _))) rfl ?_
  refine lst_box rfl rfl ?_
  intro b5
  refine lst_assign rfl rfl ?_
  refine lst_nil ?_
  refine ex_then ?_
  refine cod_ret ?_
  exact ex_ret rfl (fun a w ha => res_one rfl rfl ha) (fun a w ha => ⟨b5, rfl, ha.grown (by repeat (first | exact List.Sublist.refl _ | exact List.nil_sublist _ | refine List.Sublist.cons_cons _ ?_ | refine List.Sublist.cons _ ?_))⟩)

theorem FiningBoth_c (nA : Option Addr) (nc : Nat) (nums : List Int) (w : World) (hN : RdL icell 1 w nA nums) : Calls Tryd.prog 5 #[.slice nA nums.length nc] w fun e w' => e = .returned (.bool true) ∧ Grew w w' [] := by
  refine enter (N := 109) [(0, .slice nA nums.length nc)] Tryd.func5 rfl Tryd.ntmps5 rfl rfl ?_
  refine cod_seq ?_
  refine cod_region ?_
  refine lst_assign rfl rfl ?_
  refine lst_nil ?_
  refine ex_then ?_
  refine cod_seq ?_
  refine cod_region ?_
  refine lst_move rfl rfl ?_
  refine lst_fn (X := Nat) (vs := [_]) (p := fun _ => True) (val := fun b => .pointer (some ⟨b, 0, none⟩)) (rs := fun b => [.blk b (hatO nA nums.length nc 0 11400714819323198485)]) rfl rfl F.ent22 (fun a w ha => (NewHat_c nA nums.length nc w).mono (fun e w' h => by obtain ⟨b, h1, h2⟩ := h; exact ⟨b, trivial, h1, h2⟩)) ?_
  intro hb _
  dsimp only [List.cons_append, List.nil_append]
  refine lst_assign rfl rfl ?_
  refine lst_nil ?_
  refine ex_then ?_
  refine cod_seq ?_
  refine cod_region ?_
  refine lst_move rfl rfl ?_
  refine lst_call (X := Nat × Nat × List Ag × Option Addr × Nat) (first := []) (cap := []) (vs := [_, _, _]) (p := fun y => y.1 ≤ 200 ∧ y.2.1 < 18446744073709551616 ∧ y.2.2.1.length ≤ 3 ∧ ∀ x ∈ y.2.2.1, x.ok) (val := fun y => .slice y.2.2.2.1 y.2.2.1.length y.2.2.2.2) (rs := fun y => .row 24 5 y.2.2.2.1 y.2.2.1.length y.2.2.2.2 (y.2.2.1.flatMap Ag.cells) :: .blk hb (hatO nA nums.length nc y.1 y.2.1) :: []) rfl rfl rfl F.ent34 (fun a w ha => (AgentsOf_c (C := ⟨Tryd.prog, _, _, _, _⟩) (T := []) (tk := 0) (many := 3) (few := 3) rfl rfl hN (by omega) (by omega) (by omega) (by omega) (by omega) ha).mono (fun e w' h => by obtain ⟨t', s', l, A', c', h1, h2, h3, h4, h5, h6⟩ := h; exact ⟨(t', s', l, A', c'), ⟨by omega, h2, h3, h4⟩, h5, h6⟩)) ?_
  rintro ⟨t1, s1, ags, aA, ac⟩ ⟨ht1, hs1, hagl, hago⟩
  dsimp only at ht1 hs1 hagl hago ⊢
  have hok : Oks ags := ⟨by omega, hago⟩
  refine lst_move rfl rfl ?_
  refine lst_call_pul (X := Nat × Nat) (vs := [_, _]) hb (fun y => hatO nA nums.length nc (t1 + 3 + 3) (y.1)) (fun y => y.1 < 18446744073709551616 ∧ y.2 < 64) (fun y => .int .i64 (y.2 : Int)) rfl rfl F.ent26 (fun a w ha => (PassOf_c (C := ⟨Tryd.prog, _, _, _, _⟩) rfl rfl hN (tk := t1) (st := s1) (few := 3) (by omega) hs1 (by omega) ha).mono (fun e w' h => by obtain ⟨s', x, h1, h2, h3, h4⟩ := h; exact ⟨(s', x), ⟨h1, h2⟩, h3, h4⟩)) ?_
  rintro ⟨s2, p⟩ ⟨hs2, hp⟩
  dsimp only at hs2 hp ⊢
  refine lst_assign rfl rfl ?_
  refine lst_assign rfl rfl ?_
  refine lst_nil ?_
  refine ex_then ?_
  refine cod_seq ?_
  refine cod_region ?_
  refine lst_move rfl rfl ?_
  refine lst_call_pul (X := Nat × Nat) (vs := [_, _]) hb (fun y => hatO nA nums.length nc (t1 + 3 + 3 + 1) (y.1)) (fun y => y.1 < 18446744073709551616 ∧ y.2 ≤ (7 : Int).toNat) (fun y => .int .i64 (y.2 : Int)) rfl rfl F.ent25 (fun a w ha => (To_c (C := ⟨Tryd.prog, _, _, _, _⟩) rfl rfl hN (tk := t1 + 3 + 3) (st := s2) (n := 7) (by omega) hs2 (by omega) ha).mono (fun e w' h => by obtain ⟨s', x, h1, h2, h3, h4⟩ := h; exact ⟨(s', x), ⟨h1, h2⟩, h3, h4⟩)) ?_
  rintro ⟨s3, m1⟩ ⟨hs3, hm1⟩
  dsimp only at hs3 hm1 ⊢
  have hlm1 : m1 ≤ 7 := by omega
  refine lst_move rfl rfl ?_
  refine lst_call_pul (X := Nat × Nat) (vs := [_, _]) hb (fun y => hatO nA nums.length nc (t1 + 3 + 3 + 1 + 1) (y.1)) (fun y => y.1 < 18446744073709551616 ∧ y.2 ≤ (7 : Int).toNat) (fun y => .int .i64 (y.2 : Int)) rfl rfl F.ent25 (fun a w ha => (To_c (C := ⟨Tryd.prog, _, _, _, _⟩) rfl rfl hN (tk := t1 + 3 + 3 + 1) (st := s3) (n := 7) (by omega) hs3 (by omega) ha).mono (fun e w' h => by obtain ⟨s', x, h1, h2, h3, h4⟩ := h; exact ⟨(s', x), ⟨h1, h2⟩, h3, h4⟩)) ?_
  rintro ⟨s4, m2⟩ ⟨hs4, hm2⟩
  dsimp only at hs4 hm2 ⊢
  have hlm2 : m2 ≤ 7 := by omega
  refine lst_lit (vs := [(0, _), (1, _)]) rfl rfl Tryd.underlying25 F.ti3 rfl rfl rfl ?_
  intro b26
  refine lst_assign rfl rfl ?_
  refine lst_nil ?_
  refine ex_then ?_
  refine cod_seq ?_
  refine cod_region ?_
  refine lst_move rfl rfl ?_
  refine lst_move rfl rfl ?_
  refine lst_move rfl rfl ?_
  refine lst_fn (X := Option Wk) (vs := [_, _, _]) (p := FoundO ags (usedAll ags.length) 2 5 (m1, m2, 0) (fun t => clearT p t 2)) (val := fun o => .tuple #[.slice (wayO o).A (wayO o).how.length (wayO o).c, .int .i64 (if o.isSome then 0 else 11)]) (rs := fun o => [.row 3 1 (wayO o).A (wayO o).how.length (wayO o).c (ints (wayO o).how)]) rfl rfl F.ent28 (fun a w ha => by
    exact (Both_ok aA ac ags hok (some ⟨b26, 0, none⟩) 2 [m1, m2] p (show 1 ≤ 2 by omega) (show 2 ≤ 3 by omega) (by intro m hm; simp at hm; omega) hp w (row_reads ha (cells := Ag.cells) (size := 5) (e := 24) (c := ac) (n := ags.length) (fun _ => rfl) (InR.mem (A := aA)) rfl) (blk_reads ha (cells := ncell) (size := 1) (b := b26) (l := [m1, m2]) (fun _ => rfl) rfl)).mono (fun e w' h => by obtain ⟨o, h1, h2, h3⟩ := h; exact ⟨o, h1, h2, h3⟩)) ?_
  intro o hfo
  dsimp only [List.cons_append, List.nil_append]
  refine lst_move rfl rfl ?_
  refine lst_extract rfl rfl rfl ?_
  refine lst_extract rfl rfl rfl ?_
  refine lst_assign rfl rfl ?_
  refine lst_assign rfl rfl ?_
  refine lst_nil ?_
  refine ex_then ?_
  refine cod_seq ?_
  refine cod_seq ?_
  refine cod_region ?_
  refine lst_assign rfl rfl ?_
  refine lst_nil ?_
  refine ex_then ?_
  refine cod_block ?_
  refine cod_loop' (G := Nat) (fun g => g ≤ 6 ∧ ∀ u, Wd ags.length u → u.length < g → clears ags m1 m2 p u = false) (fun g => 6 - g) (fun g => [(4, .slice aA ags.length ac), (5, .int .i64 (p : Int)), (6, .slice (some ⟨b26, 0, none⟩) 2 2), (7, .slice (wayO o).A (wayO o).how.length (wayO o).c), (8, .int .i64 (if o.isSome then 0 else 11)), (9, .int .i64 (g : Int))]) (fun g => .row 3 1 (wayO o).A (wayO o).how.length (wayO o).c (ints (wayO o).how) :: .blk b26 (.cells [.int .i64 (m1 : Int), .int .i64 (m2 : Int)].toArray 3 (0, 0)) :: .row 24 5 aA ags.length ac (ags.flatMap Ag.cells) :: []) (0) ⟨Nat.zero_le _, fun u _ h => absurd h (by omega)⟩ (by repeat (first | exact Sub.nil _ | refine Sub.cons rfl ?_)) (by repeat (first | exact Pck.nil _ | exact Pck.refl _ | (apply Pck.cons; focus ((repeat (first | exact Rem.here _ | apply Rem.there)); done)) | refine Pck.skip _ ?_)) ?_
  rintro k ⟨hk6, hK⟩
  try dsimp only
  refine cod_seq ?_
  refine cod_seq ?_
  refine cod_region ?_
  refine lst_move rfl rfl ?_
  refine lst_int rfl rfl rfl bin_leq ?_
  refine lst_nil ?_
  refine ex_then ?_
  refine cod_cond_dec rfl (fun hc0 => ?_) (fun hc0 => ?_)
  · skip
    have hk5 : k ≤ 5 := by omega
    refine cod_skip ?_
    refine ex_then ?_
    refine cod_seq ?_
    refine cod_block ?_
    refine cod_seq ?_
    refine cod_region ?_
    refine lst_move rfl rfl ?_
    refine lst_len rfl rfl Tryd.underlying22 ?_
    refine lst_move rfl rfl ?_
    refine lst_call (X := List Sl × Option Addr × Nat) (first := []) (cap := []) (vs := [_, _]) (p := fun y => y.1.map Sl.l = strs ags.length k) (val := fun y => .slice y.2.1 y.1.length y.2.2) (rs := fun y => .row 25 1 y.2.1 y.1.length y.2.2 (y.1.map Sl.val) :: .row 3 1 (wayO o).A (wayO o).how.length (wayO o).c (ints (wayO o).how) :: .blk b26 (.cells [.int .i64 (m1 : Int), .int .i64 (m2 : Int)].toArray 3 (0, 0)) :: .row 24 5 aA ags.length ac (ags.flatMap Ag.cells) :: (y.1.map Sl.res ++ [])) rfl rfl rfl F.ent38 (fun a w ha => by
      exact (Strings_c ags.length k (by omega) hk5 w).mono (fun e w' h => by obtain ⟨Ls, A', c', h1, h2, h3⟩ := h; refine ⟨(Ls, A', c'), h1, h2, (ha.more h3).pck (Pck.cons (.here _) ?_)⟩; rw [List.append_nil]; exact Pck.swap (Ls.map Sl.res) [.row 3 1 (wayO o).A (wayO o).how.length (wayO o).c (ints (wayO o).how), .blk b26 (.cells [.int .i64 (m1 : Int), .int .i64 (m2 : Int)].toArray 3 (0, 0)), .row 24 5 aA ags.length ac (ags.flatMap Ag.cells)])) ?_
    rintro ⟨Ls, lA, lc⟩ hLs
    dsimp only at hLs ⊢
    refine lst_assign rfl rfl ?_
    refine lst_nil ?_
    refine ex_then ?_
    refine cod_seq ?_
    refine cod_region ?_
    refine lst_assign rfl rfl ?_
    refine lst_nil ?_
    refine ex_then ?_
    refine cod_block ?_
    refine cod_loop' (G := Nat) (fun g => g ≤ Ls.length ∧ ∀ j u, j < g → (strs ags.length k)[j]? = some u → clears ags m1 m2 p u = false) (fun g => Ls.length - g) (fun g => [(4, .slice aA ags.length ac), (5, .int .i64 (p : Int)), (6, .slice (some ⟨b26, 0, none⟩) 2 2), (7, .slice (wayO o).A (wayO o).how.length (wayO o).c), (8, .int .i64 (if o.isSome then 0 else 11)), (9, .int .i64 (k : Int)), (10, .slice lA Ls.length lc), (11, .int .i64 (g : Int))]) (fun g => .row 25 1 lA Ls.length lc (Ls.map Sl.val) :: .row 3 1 (wayO o).A (wayO o).how.length (wayO o).c (ints (wayO o).how) :: .blk b26 (.cells [.int .i64 (m1 : Int), .int .i64 (m2 : Int)].toArray 3 (0, 0)) :: .row 24 5 aA ags.length ac (ags.flatMap Ag.cells) :: (Ls.map Sl.res ++ [])) (0) ⟨Nat.zero_le _, fun j u h => absurd h (by omega)⟩ (by repeat (first | exact Sub.nil _ | refine Sub.cons rfl ?_)) (by repeat (first | exact Pck.nil _ | exact Pck.refl _ | (apply Pck.cons; focus ((repeat (first | exact Rem.here _ | apply Rem.there)); done)) | refine Pck.skip _ ?_)) ?_
    rintro i ⟨hil, hI⟩
    try dsimp only
    refine cod_seq ?_
    refine cod_seq ?_
    refine cod_region ?_
    refine lst_move rfl rfl ?_
    refine lst_move rfl rfl ?_
    refine lst_len rfl rfl Tryd.underlying49 ?_
    refine lst_int rfl rfl rfl bin_lss ?_
    refine lst_nil ?_
    refine ex_then ?_
    refine cod_cond_dec rfl (fun hc1 => ?_) (fun hc1 => ?_)
    · skip
      have hi' : i < Ls.length := by omega
      refine cod_know (φ := ∃ g, lA = some ⟨g, 0, none⟩) (fun a w ha => row_some (ha.own _ (InR.mem (A := lA))) (by omega)) (fun hgL => ?_)
      obtain ⟨gL, rfl⟩ := hgL
      obtain ⟨s, hs⟩ : ∃ s, Ls[i]? = some s := ⟨_, List.getElem?_eq_getElem hi'⟩
      have hsx : (strs ags.length k)[i]? = some s.l := by rw [← hLs, List.getElem?_map, hs]; rfl
      have hsm : s ∈ Ls := List.mem_of_getElem? hs
      have hsl := (strs_mem (List.mem_of_getElem? hsx)).1
      have hv1 := followV_lt hok (way := s.l) (f := m1) (by omega)
      have hv2 := followV_lt hok (way := s.l) (f := m2) (by omega)
      refine cod_skip ?_
      refine ex_then ?_
      refine cod_seq ?_
      refine cod_block ?_
      refine cod_seq ?_
      refine any_begin [] F.follows 14 rfl [false, false, false, false, false, false, false, false, false, false, false, false, false, false] rfl ?_
      refine any_take (listed' := [true, false, false, false, false, false, false, false, false, false, false, false, false, false].toArray) 0 rfl rfl rfl (by kernel_rfl) (by kernel_rfl) (by kernel_rfl) (by repeat (first | exact List.Sublist.refl _ | exact List.nil_sublist _ | refine List.Sublist.cons_cons _ ?_ | refine List.Sublist.cons _ ?_)) (yld_move rfl) rfl ?_
      refine any_take (listed' := [true, true, false, false, false, false, false, false, false, false, false, false, false, false].toArray) 1 rfl rfl rfl (by kernel_rfl) (by kernel_rfl) (by kernel_rfl) (by repeat (first | exact List.Sublist.refl _ | exact List.nil_sublist _ | refine List.Sublist.cons_cons _ ?_ | refine List.Sublist.cons _ ?_)) (yld_move rfl) rfl ?_
      refine any_take (listed' := [true, true, true, false, false, false, false, false, false, false, false, false, false, false].toArray) 2 rfl rfl rfl (by kernel_rfl) (by kernel_rfl) (by kernel_rfl) (by repeat (first | exact List.Sublist.refl _ | exact List.nil_sublist _ | refine List.Sublist.cons_cons _ ?_ | refine List.Sublist.cons _ ?_)) (yld_index (j := 0) rfl rfl Tryd.underlying25 F.ti3 rfl (by omega)) rfl ?_
      refine any_take (listed' := [true, true, true, true, false, false, false, false, false, false, false, false, false, false].toArray) 3 rfl rfl rfl (by kernel_rfl) (by kernel_rfl) (by kernel_rfl) (by repeat (first | exact List.Sublist.refl _ | exact List.nil_sublist _ | refine List.Sublist.cons_cons _ ?_ | refine List.Sublist.cons _ ?_)) (yld_load_at (v := .int .i64 (m1 : Int)) rfl F.one3 (fun a w ha => cell_of_blk (ha.mem_blk (InB.mem (b := b26))) rfl)) rfl ?_
      refine any_take (listed' := [true, true, true, true, true, false, false, false, false, false, false, false, false, false].toArray) 4 rfl rfl rfl (by kernel_rfl) (by kernel_rfl) (by kernel_rfl) (by repeat (first | exact List.Sublist.refl _ | exact List.nil_sublist _ | refine List.Sublist.cons_cons _ ?_ | refine List.Sublist.cons _ ?_)) (yld_move rfl) rfl ?_
      refine any_take (listed' := [true, true, true, true, true, true, false, false, false, false, false, false, false, false].toArray) 5 rfl rfl rfl (by kernel_rfl) (by kernel_rfl) (by kernel_rfl) (by repeat (first | exact List.Sublist.refl _ | exact List.nil_sublist _ | refine List.Sublist.cons_cons _ ?_ | refine List.Sublist.cons _ ?_)) (yld_move rfl) rfl ?_
      refine any_take (listed' := [true, true, true, true, true, true, true, false, false, false, false, false, false, false].toArray) 6 rfl rfl rfl (by kernel_rfl) (by kernel_rfl) (by kernel_rfl) (by repeat (first | exact List.Sublist.refl _ | exact List.nil_sublist _ | refine List.Sublist.cons_cons _ ?_ | refine List.Sublist.cons _ ?_)) (yld_index (j := i) rfl rfl Tryd.underlying49 F.ti25 rfl hi') rfl ?_
      refine any_take (listed' := [true, true, true, true, true, true, true, true, false, false, false, false, false, false].toArray) 7 rfl rfl rfl (by kernel_rfl) (by kernel_rfl) (by kernel_rfl) (by repeat (first | exact List.Sublist.refl _ | exact List.nil_sublist _ | refine List.Sublist.cons_cons _ ?_ | refine List.Sublist.cons _ ?_)) (yld_load_at (v := .slice s.A s.l.length s.c) rfl F.one25 (fun a w ha => row_cell ha (InR.mem (A := some ⟨gL, 0, none⟩)) rfl (by rw [Nat.zero_add]; exact vals_get hs))) rfl ?_
      refine any_one (listed' := [true, true, true, true, true, true, true, true, true, false, false, false, false, false].toArray) 8 (by kernel_rfl) rfl rfl ?_
      refine lst_fn0 (vs := [_, _, _]) rfl rfl F.ent36 (fun a w ha => follows_c aA s.A ac s.c m1 ags s.l hok (by omega) (by omega) w (row_reads ha (cells := Ag.cells) (size := 5) (e := 24) (c := ac) (n := ags.length) (fun _ => rfl) (InR.mem (A := aA)) rfl) (row_reads ha (cells := ncell) (size := 1) (e := 3) (c := s.c) (n := s.l.length) (fun _ => rfl) (by have hm : Res.row 3 1 s.A s.l.length s.c (ints s.l) ∈ Ls.map Sl.res := List.mem_map.2 ⟨s, hsm, rfl⟩; rw [← ints_flat]; simp [hm]) rfl)) ?_
      refine lst_nil ?_
      refine any_next (by repeat (first | exact List.Sublist.refl _ | exact List.nil_sublist _ | refine List.Sublist.cons_cons _ ?_ | refine List.Sublist.cons _ ?_)) ?_
      refine any_take (listed' := [true, true, true, true, true, true, true, true, true, true, false, false, false, false].toArray) 9 rfl rfl rfl (by kernel_rfl) (by kernel_rfl) (by kernel_rfl) (by repeat (first | exact List.Sublist.refl _ | exact List.nil_sublist _ | refine List.Sublist.cons_cons _ ?_ | refine List.Sublist.cons _ ?_)) (yld_move rfl) rfl ?_
      refine any_take (listed' := [true, true, true, true, true, true, true, true, true, true, true, false, false, false].toArray) 10 rfl rfl rfl (by kernel_rfl) (by kernel_rfl) (by kernel_rfl) (by repeat (first | exact List.Sublist.refl _ | exact List.nil_sublist _ | refine List.Sublist.cons_cons _ ?_ | refine List.Sublist.cons _ ?_)) (yld_extract rfl rfl) rfl ?_
      refine any_take (listed' := [true, true, true, true, true, true, true, true, true, true, true, true, false, false].toArray) 11 rfl rfl rfl (by kernel_rfl) (by kernel_rfl) (by kernel_rfl) (by repeat (first | exact List.Sublist.refl _ | exact List.nil_sublist _ | refine List.Sublist.cons_cons _ ?_ | refine List.Sublist.cons _ ?_)) (yld_extract rfl rfl) rfl ?_
      refine any_take (listed' := [true, true, true, true, true, true, true, true, true, true, true, true, true, false].toArray) 12 rfl rfl rfl (by kernel_rfl) (by kernel_rfl) (by kernel_rfl) (by repeat (first | exact List.Sublist.refl _ | exact List.nil_sublist _ | refine List.Sublist.cons_cons _ ?_ | refine List.Sublist.cons _ ?_)) (yld_assign rfl) rfl ?_
      refine any_take (listed' := [true, true, true, true, true, true, true, true, true, true, true, true, true, true].toArray) 13 rfl rfl rfl (by kernel_rfl) (by kernel_rfl) (by kernel_rfl) (by repeat (first | exact List.Sublist.refl _ | exact List.nil_sublist _ | refine List.Sublist.cons_cons _ ?_ | refine List.Sublist.cons _ ?_)) (yld_assign rfl) rfl ?_
      refine any_done rfl (by kernel_rfl) ?_
      refine ex_then ?_
      refine cod_seq ?_
      refine any_begin [] F.follows 14 rfl [false, false, false, false, false, false, false, false, false, false, false, false, false, false] rfl ?_
      refine any_take (listed' := [true, false, false, false, false, false, false, false, false, false, false, false, false, false].toArray) 0 rfl rfl rfl (by kernel_rfl) (by kernel_rfl) (by kernel_rfl) (by repeat (first | exact List.Sublist.refl _ | exact List.nil_sublist _ | refine List.Sublist.cons_cons _ ?_ | refine List.Sublist.cons _ ?_)) (yld_move rfl) rfl ?_
      refine any_take (listed' := [true, true, false, false, false, false, false, false, false, false, false, false, false, false].toArray) 1 rfl rfl rfl (by kernel_rfl) (by kernel_rfl) (by kernel_rfl) (by repeat (first | exact List.Sublist.refl _ | exact List.nil_sublist _ | refine List.Sublist.cons_cons _ ?_ | refine List.Sublist.cons _ ?_)) (yld_move rfl) rfl ?_
      refine any_take (listed' := [true, true, true, false, false, false, false, false, false, false, false, false, false, false].toArray) 2 rfl rfl rfl (by kernel_rfl) (by kernel_rfl) (by kernel_rfl) (by repeat (first | exact List.Sublist.refl _ | exact List.nil_sublist _ | refine List.Sublist.cons_cons _ ?_ | refine List.Sublist.cons _ ?_)) (yld_index (j := 1) rfl rfl Tryd.underlying25 F.ti3 rfl (by omega)) rfl ?_
      refine any_take (listed' := [true, true, true, true, false, false, false, false, false, false, false, false, false, false].toArray) 3 rfl rfl rfl (by kernel_rfl) (by kernel_rfl) (by kernel_rfl) (by repeat (first | exact List.Sublist.refl _ | exact List.nil_sublist _ | refine List.Sublist.cons_cons _ ?_ | refine List.Sublist.cons _ ?_)) (yld_load_at (v := .int .i64 (m2 : Int)) rfl F.one3 (fun a w ha => cell_of_blk (ha.mem_blk (InB.mem (b := b26))) rfl)) rfl ?_
      refine any_take (listed' := [true, true, true, true, true, false, false, false, false, false, false, false, false, false].toArray) 4 rfl rfl rfl (by kernel_rfl) (by kernel_rfl) (by kernel_rfl) (by repeat (first | exact List.Sublist.refl _ | exact List.nil_sublist _ | refine List.Sublist.cons_cons _ ?_ | refine List.Sublist.cons _ ?_)) (yld_move rfl) rfl ?_
      refine any_take (listed' := [true, true, true, true, true, true, false, false, false, false, false, false, false, false].toArray) 5 rfl rfl rfl (by kernel_rfl) (by kernel_rfl) (by kernel_rfl) (by repeat (first | exact List.Sublist.refl _ | exact List.nil_sublist _ | refine List.Sublist.cons_cons _ ?_ | refine List.Sublist.cons _ ?_)) (yld_move rfl) rfl ?_
      refine any_take (listed' := [true, true, true, true, true, true, true, false, false, false, false, false, false, false].toArray) 6 rfl rfl rfl (by kernel_rfl) (by kernel_rfl) (by kernel_rfl) (by repeat (first | exact List.Sublist.refl _ | exact List.nil_sublist _ | refine List.Sublist.cons_cons _ ?_ | refine List.Sublist.cons _ ?_)) (yld_index (j := i) rfl rfl Tryd.underlying49 F.ti25 rfl hi') rfl ?_
      refine any_take (listed' := [true, true, true, true, true, true, true, true, false, false, false, false, false, false].toArray) 7 rfl rfl rfl (by kernel_rfl) (by kernel_rfl) (by kernel_rfl) (by repeat (first | exact List.Sublist.refl _ | exact List.nil_sublist _ | refine List.Sublist.cons_cons _ ?_ | refine List.Sublist.cons _ ?_)) (yld_load_at (v := .slice s.A s.l.length s.c) rfl F.one25 (fun a w ha => row_cell ha (InR.mem (A := some ⟨gL, 0, none⟩)) rfl (by rw [Nat.zero_add]; exact vals_get hs))) rfl ?_
      refine any_one (listed' := [true, true, true, true, true, true, true, true, true, false, false, false, false, false].toArray) 8 (by kernel_rfl) rfl rfl ?_
      refine lst_fn0 (vs := [_, _, _]) rfl rfl F.ent36 (fun a w ha => follows_c aA s.A ac s.c m2 ags s.l hok (by omega) (by omega) w (row_reads ha (cells := Ag.cells) (size := 5) (e := 24) (c := ac) (n := ags.length) (fun _ => rfl) (InR.mem (A := aA)) rfl) (row_reads ha (cells := ncell) (size := 1) (e := 3) (c := s.c) (n := s.l.length) (fun _ => rfl) (by have hm : Res.row 3 1 s.A s.l.length s.c (ints s.l) ∈ Ls.map Sl.res := List.mem_map.2 ⟨s, hsm, rfl⟩; rw [← ints_flat]; simp [hm]) rfl)) ?_
      refine lst_nil ?_
      refine any_next (by repeat (first | exact List.Sublist.refl _ | exact List.nil_sublist _ | refine List.Sublist.cons_cons _ ?_ | refine List.Sublist.cons _ ?_)) ?_
      refine any_take (listed' := [true, true, true, true, true, true, true, true, true, true, false, false, false, false].toArray) 9 rfl rfl rfl (by kernel_rfl) (by kernel_rfl) (by kernel_rfl) (by repeat (first | exact List.Sublist.refl _ | exact List.nil_sublist _ | refine List.Sublist.cons_cons _ ?_ | refine List.Sublist.cons _ ?_)) (yld_move rfl) rfl ?_
      refine any_take (listed' := [true, true, true, true, true, true, true, true, true, true, true, false, false, false].toArray) 10 rfl rfl rfl (by kernel_rfl) (by kernel_rfl) (by kernel_rfl) (by repeat (first | exact List.Sublist.refl _ | exact List.nil_sublist _ | refine List.Sublist.cons_cons _ ?_ | refine List.Sublist.cons _ ?_)) (yld_extract rfl rfl) rfl ?_
      refine any_take (listed' := [true, true, true, true, true, true, true, true, true, true, true, true, false, false].toArray) 11 rfl rfl rfl (by kernel_rfl) (by kernel_rfl) (by kernel_rfl) (by repeat (first | exact List.Sublist.refl _ | exact List.nil_sublist _ | refine List.Sublist.cons_cons _ ?_ | refine List.Sublist.cons _ ?_)) (yld_extract rfl rfl) rfl ?_
      refine any_take (listed' := [true, true, true, true, true, true, true, true, true, true, true, true, true, false].toArray) 12 rfl rfl rfl (by kernel_rfl) (by kernel_rfl) (by kernel_rfl) (by repeat (first | exact List.Sublist.refl _ | exact List.nil_sublist _ | refine List.Sublist.cons_cons _ ?_ | refine List.Sublist.cons _ ?_)) (yld_assign rfl) rfl ?_
      refine any_take (listed' := [true, true, true, true, true, true, true, true, true, true, true, true, true, true].toArray) 13 rfl rfl rfl (by kernel_rfl) (by kernel_rfl) (by kernel_rfl) (by repeat (first | exact List.Sublist.refl _ | exact List.nil_sublist _ | refine List.Sublist.cons_cons _ ?_ | refine List.Sublist.cons _ ?_)) (yld_assign rfl) rfl ?_
      refine any_done rfl (by kernel_rfl) ?_
      refine ex_then ?_
      refine cod_seq ?_
      refine cod_region ?_
      refine lst_cut1 14 85 (.bool (clears ags m1 m2 p s.l)) ?_ ?_
      · skip
        refine lst_move rfl rfl ?_
        refine lst_move rfl rfl ?_
        refine lst_split_bool (t := 73) rfl (fun hg73 => ?_) (fun hg73 => ?_)
        · skip
          refine lst_on rfl rfl ?_
          refine lst_move rfl rfl ?_
          refine lst_pick_true rfl rfl rfl ?_
          refine lst_move rfl rfl ?_
          refine lst_split_bool (t := 76) rfl (fun hg76 => ?_) (fun hg76 => ?_)
          · skip
            refine lst_on rfl rfl ?_
            refine lst_move rfl rfl ?_
            refine lst_on rfl rfl ?_
            refine lst_move rfl rfl ?_
            refine lst_on rfl rfl ?_
            refine lst_fn0 (vs := [_, _]) rfl rfl F.ent37 (fun a w ha => Clear_c (followV (followN ags m1 s.l)) p hv1 hp w) ?_
            refine lst_pick_true rfl rfl rfl ?_
            refine lst_move rfl rfl ?_
            refine lst_split_bool (t := 81) rfl (fun hg81 => ?_) (fun hg81 => ?_)
            · skip
              refine lst_on rfl rfl ?_
              refine lst_move rfl rfl ?_
              refine lst_on rfl rfl ?_
              refine lst_move rfl rfl ?_
              refine lst_on rfl rfl ?_
              refine lst_fn0 (vs := [_, _]) rfl rfl F.ent37 (fun a w ha => Clear_c (followV (followN ags m2 s.l)) p hv2 hp w) ?_
              refine lst_pick_true rfl rfl rfl ?_
              refine lst_nil ?_
              exact ex_cut (.cons (by simp_all [look, clears]) (by repeat (first | exact Sub.nil _ | refine Sub.cons rfl ?_))) (by repeat (first | exact List.Sublist.refl _ | exact List.nil_sublist _ | refine List.Sublist.cons_cons _ ?_ | refine List.Sublist.cons _ ?_))
            · skip
              refine lst_off rfl rfl rfl ?_
              refine lst_off rfl rfl rfl ?_
              refine lst_off rfl rfl rfl ?_
              refine lst_pick_false rfl rfl rfl ?_
              refine lst_nil ?_
              exact ex_cut (.cons (by simp_all [look, clears]) (by repeat (first | exact Sub.nil _ | refine Sub.cons rfl ?_))) (by repeat (first | exact List.Sublist.refl _ | exact List.nil_sublist _ | refine List.Sublist.cons_cons _ ?_ | refine List.Sublist.cons _ ?_))
          · skip
            refine lst_off rfl rfl rfl ?_
            refine lst_off rfl rfl rfl ?_
            refine lst_off rfl rfl rfl ?_
            refine lst_pick_false rfl rfl rfl ?_
            refine lst_move rfl rfl ?_
            refine lst_split_bool (t := 81) rfl (fun hg81 => ?_) (fun hg81 => ?_)
            · skip
              refine lst_on rfl rfl ?_
              refine lst_move rfl rfl ?_
              refine lst_on rfl rfl ?_
              refine lst_move rfl rfl ?_
              refine lst_on rfl rfl ?_
              refine lst_fn0 (vs := [_, _]) rfl rfl F.ent37 (fun a w ha => Clear_c (followV (followN ags m2 s.l)) p hv2 hp w) ?_
              refine lst_pick_true rfl rfl rfl ?_
              refine lst_nil ?_
              exact ex_cut (.cons (by simp_all [look, clears]) (by repeat (first | exact Sub.nil _ | refine Sub.cons rfl ?_))) (by repeat (first | exact List.Sublist.refl _ | exact List.nil_sublist _ | refine List.Sublist.cons_cons _ ?_ | refine List.Sublist.cons _ ?_))
            · skip
              refine lst_off rfl rfl rfl ?_
              refine lst_off rfl rfl rfl ?_
              refine lst_off rfl rfl rfl ?_
              refine lst_pick_false rfl rfl rfl ?_
              refine lst_nil ?_
              exact ex_cut (.cons (by simp_all [look, clears]) (by repeat (first | exact Sub.nil _ | refine Sub.cons rfl ?_))) (by repeat (first | exact List.Sublist.refl _ | exact List.nil_sublist _ | refine List.Sublist.cons_cons _ ?_ | refine List.Sublist.cons _ ?_))
        · skip
          refine lst_off rfl rfl rfl ?_
          refine lst_pick_false rfl rfl rfl ?_
          refine lst_move rfl rfl ?_
          refine lst_split_bool (t := 76) rfl (fun hg76 => ?_) (fun hg76 => ?_)
          · skip
            refine lst_on rfl rfl ?_
            refine lst_move rfl rfl ?_
            refine lst_on rfl rfl ?_
            refine lst_move rfl rfl ?_
            refine lst_on rfl rfl ?_
            refine lst_fn0 (vs := [_, _]) rfl rfl F.ent37 (fun a w ha => Clear_c (followV (followN ags m1 s.l)) p hv1 hp w) ?_
            refine lst_pick_true rfl rfl rfl ?_
            refine lst_move rfl rfl ?_
            refine lst_split_bool (t := 81) rfl (fun hg81 => ?_) (fun hg81 => ?_)
            · skip
              refine lst_on rfl rfl ?_
              refine lst_move rfl rfl ?_
              refine lst_on rfl rfl ?_
              refine lst_move rfl rfl ?_
              refine lst_on rfl rfl ?_
              refine lst_fn0 (vs := [_, _]) rfl rfl F.ent37 (fun a w ha => Clear_c (followV (followN ags m2 s.l)) p hv2 hp w) ?_
              refine lst_pick_true rfl rfl rfl ?_
              refine lst_nil ?_
              exact ex_cut (.cons (by simp_all [look, clears]) (by repeat (first | exact Sub.nil _ | refine Sub.cons rfl ?_))) (by repeat (first | exact List.Sublist.refl _ | exact List.nil_sublist _ | refine List.Sublist.cons_cons _ ?_ | refine List.Sublist.cons _ ?_))
            · skip
              refine lst_off rfl rfl rfl ?_
              refine lst_off rfl rfl rfl ?_
              refine lst_off rfl rfl rfl ?_
              refine lst_pick_false rfl rfl rfl ?_
              refine lst_nil ?_
              exact ex_cut (.cons (by simp_all [look, clears]) (by repeat (first | exact Sub.nil _ | refine Sub.cons rfl ?_))) (by repeat (first | exact List.Sublist.refl _ | exact List.nil_sublist _ | refine List.Sublist.cons_cons _ ?_ | refine List.Sublist.cons _ ?_))
          · skip
            refine lst_off rfl rfl rfl ?_
            refine lst_off rfl rfl rfl ?_
            refine lst_off rfl rfl rfl ?_
            refine lst_pick_false rfl rfl rfl ?_
            refine lst_move rfl rfl ?_
            refine lst_split_bool (t := 81) rfl (fun hg81 => ?_) (fun hg81 => ?_)
            · skip
              refine lst_on rfl rfl ?_
              refine lst_move rfl rfl ?_
              refine lst_on rfl rfl ?_
              refine lst_move rfl rfl ?_
              refine lst_on rfl rfl ?_
              refine lst_fn0 (vs := [_, _]) rfl rfl F.ent37 (fun a w ha => Clear_c (followV (followN ags m2 s.l)) p hv2 hp w) ?_
              refine lst_pick_true rfl rfl rfl ?_
              refine lst_nil ?_
              exact ex_cut (.cons (by simp_all [look, clears]) (by repeat (first | exact Sub.nil _ | refine Sub.cons rfl ?_))) (by repeat (first | exact List.Sublist.refl _ | exact List.nil_sublist _ | refine List.Sublist.cons_cons _ ?_ | refine List.Sublist.cons _ ?_))
            · skip
              refine lst_off rfl rfl rfl ?_
              refine lst_off rfl rfl rfl ?_
              refine lst_off rfl rfl rfl ?_
              refine lst_pick_false rfl rfl rfl ?_
              refine lst_nil ?_
              exact ex_cut (.cons (by simp_all [look, clears]) (by repeat (first | exact Sub.nil _ | refine Sub.cons rfl ?_))) (by repeat (first | exact List.Sublist.refl _ | exact List.nil_sublist _ | refine List.Sublist.cons_cons _ ?_ | refine List.Sublist.cons _ ?_))
      refine lst_nil ?_
      refine ex_then ?_
      refine cod_cond_bool rfl (fun hc2 => ?_) (fun hc2 => ?_)
      · skip
        have hfirst := first_of_strs hk5 hsx hc2 hK hI
        obtain ⟨kk, rfl, hkh⟩ := found_first hfo hfirst
        refine cod_seq ?_
        refine cod_region ?_
        refine lst_move rfl rfl ?_
        refine lst_int rfl rfl rfl bin_eql ?_
        refine lst_move rfl rfl ?_
        refine lst_on rfl rfl ?_
        refine lst_move rfl rfl ?_
        refine lst_on rfl rfl ?_
        refine lst_move rfl rfl ?_
        refine lst_on rfl rfl ?_
        refine lst_move rfl rfl ?_
        refine lst_on rfl rfl ?_
        refine lst_index (j := i) rfl rfl rfl Tryd.underlying49 F.ti25 rfl hi' ?_
        refine lst_on rfl rfl ?_
        refine lst_load_at (v := .slice s.A s.l.length s.c) rfl rfl F.one25 (fun a w ha => row_cell ha (InR.mem (A := some ⟨gL, 0, none⟩)) rfl (by rw [Nat.zero_add]; exact vals_get hs)) ?_
        refine lst_on rfl rfl ?_
        refine lst_fn0 (v := .bool true) (vs := [_, _]) rfl rfl F.ent32 (fun a w ha => by
          have hr1 : RdL ncell 1 w kk.A kk.how := row_reads ha (cells := ncell) (size := 1) (e := 3) (c := kk.c) (n := kk.how.length) (fun _ => rfl) (by rw [← ints_flat]; exact List.mem_cons.2 (.inr (List.mem_cons.2 (.inl rfl)))) rfl
          have h := eqInts_c kk.A s.A kk.c s.c (kk.how.map fun (n : Nat) => (n : Int)) (s.l.map fun (n : Nat) => (n : Int)) (by rw [List.length_map, hkh]; omega) w hr1.cast (RdL.cast (row_reads ha (cells := ncell) (size := 1) (e := 3) (c := s.c) (n := s.l.length) (fun _ => rfl) (by have hm : Res.row 3 1 s.A s.l.length s.c (ints s.l) ∈ Ls.map Sl.res := List.mem_map.2 ⟨s, hsm, rfl⟩; rw [← ints_flat]; simp [hm]) rfl))
          rw [List.length_map, List.length_map] at h
          exact h.mono (fun e w' h => ⟨h.1.trans (by rw [hkh]; simp), h.2⟩)) ?_
        refine lst_pick_true rfl rfl rfl ?_
        refine lst_move rfl rfl ?_
        refine lst_on rfl rfl ?_
        refine lst_fn0 (vs := []) rfl rfl F.ent21 (fun a w ha => fined_c w) ?_
        refine lst_pick_true rfl rfl rfl ?_
        refine lst_assign rfl rfl ?_
        refine lst_nil ?_
        refine ex_then ?_
        refine cod_ret ?_
        refine ex_block_ret ?_
        refine ex_then_ret ?_
        refine ex_then_ret ?_
        refine ex_block_ret ?_
        refine ex_block_ret ?_
        refine ex_then_ret ?_
        refine ex_then_ret ?_
        refine ex_block_ret ?_
        refine ex_then_ret ?_
        exact ex_ret rfl (fun a w ha => res_one rfl rfl ha) (fun a w ha => ⟨rfl, ha.grown (List.nil_sublist _)⟩)
      · skip
        refine cod_skip ?_
        refine ex_block_normal ?_
        refine ex_then ?_
        refine cod_region ?_
        refine lst_move rfl rfl ?_
        refine lst_int rfl rfl rfl (fun w => bin_add w (wrap_i64' _ (by omega) (by have h1 := strs_le (n := ags.length) (k := k) (by omega) hk5; have h2 : Ls.length = (strs ags.length k).length := (by rw [← hLs, List.length_map]); omega))) ?_
        refine lst_assign rfl rfl ?_
        refine lst_nil ?_
        refine ex_round' (i + 1) ⟨by omega, fun j u hj hju => ?_⟩ (by (try dsimp only); omega) (by repeat (first | exact Sub.nil _ | refine Sub.cons rfl ?_)) (by repeat (first | exact Pck.nil _ | exact Pck.refl _ | (apply Pck.cons; focus ((repeat (first | exact Rem.here _ | apply Rem.there)); done)) | refine Pck.skip _ ?_))
        rcases Nat.lt_or_ge j i with h | h
        · exact hI j u h hju
        · obtain rfl : j = i := by omega
          rw [hsx] at hju
          cases hju
          exact hc2
    · skip
      obtain rfl : i = Ls.length := by omega
      have hLl : Ls.length = (strs ags.length k).length := by rw [← hLs, List.length_map]
      refine cod_exit ?_
      refine ex_then_exit ?_
      refine ex_then_exit ?_
      refine ex_block_exit ?_
      refine ex_block_normal ?_
      refine ex_then ?_
      refine cod_region ?_
      refine lst_move rfl rfl ?_
      refine lst_int rfl rfl rfl (fun w => bin_add w (wrap_i64' _ (by omega) (by omega))) ?_
      refine lst_assign rfl rfl ?_
      refine lst_nil ?_
      refine ex_round' (k + 1) ⟨by omega, fun u hu hul => ?_⟩ (by (try dsimp only); omega) (by repeat (first | exact Sub.nil _ | refine Sub.cons rfl ?_)) (by repeat (first | exact Pck.nil _ | exact Pck.refl _ | (apply Pck.cons; focus ((repeat (first | exact Rem.here _ | apply Rem.there)); done)) | refine Pck.skip _ ?_))
      rcases Nat.lt_or_ge u.length k with h | h
      · exact hK u hu h
      · obtain ⟨j, hj⟩ := List.getElem?_of_mem (strs_all hu (show u.length = k by omega))
        exact hI j u (by rw [hLl]; exact (List.getElem?_eq_some_iff.1 hj).1) hj
  · skip
    obtain rfl : k = 6 := by omega
    have ho : o = none := by
      cases o with
      | none => rfl
      | some kk =>
        exfalso
        have hfit := found_len hfo
        have hcl := clears_run.2 ⟨kk.team, hfo.2.1, hfo.2.2⟩
        rw [hK kk.how (run_wd _ stepT_none _ _ _ hfo.2.1) (by omega)] at hcl
        cases hcl
    subst ho
    refine cod_exit ?_
    refine ex_then_exit ?_
    refine ex_then_exit ?_
    refine ex_block_exit ?_
    refine ex_then ?_
    refine cod_seq ?_
    refine cod_region ?_
    refine lst_move rfl rfl ?_
    refine lst_int rfl rfl rfl bin_eql ?_
    refine lst_move rfl rfl ?_
    refine lst_on rfl rfl ?_
    refine lst_move rfl rfl ?_
    refine lst_on rfl rfl ?_
    refine lst_len rfl rfl Tryd.underlying25 ?_
    refine lst_on rfl rfl ?_
    refine lst_int rfl rfl rfl bin_eql ?_
    refine lst_pick_true rfl rfl rfl ?_
    refine lst_move rfl rfl ?_
    refine lst_on rfl rfl ?_
    refine lst_fn0 (vs := []) rfl rfl F.ent21 (fun a w ha => fined_c w) ?_
    refine lst_pick_true rfl rfl rfl ?_
    refine lst_assign rfl rfl ?_
    refine lst_nil ?_
    refine ex_then ?_
    refine cod_ret ?_
    exact ex_ret rfl (fun a w ha => res_one rfl rfl ha) (fun a w ha => ⟨rfl, ha.grown (List.nil_sublist _)⟩)

end Go.Proofs.YtofkhehcnfiopaaDoor.N
