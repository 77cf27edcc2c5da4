/- Parts of the walks of the laws on fining, those that FiningFaults needs: F15, Kit, F16, Kit2, Kit3, Both5, F19, TellsP, Sx5, Opt, Opt2, Ch, Clr. -/
import Derived.Test.YtofkhehcnfiopaaDoorSFiningFaults07
import Derived.Test.YtofkhehcnfiopaaDoorProg
import Derived.Test.YtofkhehcnfiopaaDoorSFiningFaults03
import Derived.Test.YtofkhehcnfiopaaDoorSFiningFaults06
import Derived.Test.YtofkhehcnfiopaaDoorSFiningFaults05
namespace Go.Proofs.YtofkhehcnfiopaaDoor.N
open Go Go.RowKit Go.Proofs
set_option linter.unusedSectionVars false
variable [I : Sys]
theorem F.ent63 : Enters Tryd.prog 63 := enters_of Tryd.func63 rfl (by kernel_rfl)
theorem F.ent87 : Enters Tryd.prog 87 := enters_of Tryd.func87 rfl (by kernel_rfl)
theorem AgentOf_c {C : Ctx} {fr : List (Nat × Value)} {T : List Res} {a : Act} {w : World} (hC : C.P = Tryd.prog) {hb tk st nc : Nat} {nA : Option Addr} {nums : List Int} (hB : C.w0.heap.size = C.B) (hN : RdL icell 1 C.w0 nA nums) (htk : tk ≤ 990000) (hst : st < 18446744073709551616) {few : Nat} (hf1 : 1 ≤ few) (hfew : few ≤ 6) (ha : At C fr (.blk hb (hatO nA nums.length nc (tk) (st)) :: T) a w) : Calls C.P 50 #[.pointer (some ⟨hb, 0, none⟩), .int .i64 (few : Int)] w fun e w' => ∃ (tk' st' : Nat) (x : Ag), tk' ≤ tk + 40 ∧ st' < 18446744073709551616 ∧ x.ok ∧ e = .returned (.agg [.int .i64 (x.needs : Int), .int .i64 (x.no : Int), .int .i64 (x.takes : Int), .int .i64 (x.leaves : Int), .int .i64 (x.cost : Int)].toArray) ∧ At C fr (.blk hb (hatO nA nums.length nc (tk') (st')) :: T) a w' := by
  obtain ⟨P, B, w0, N0, ds⟩ := C
  obtain rfl : P = Tryd.prog := hC
  (try dsimp only at hB)
  (try dsimp only at hN)
  refine enter_in (N := 53) [(0, .pointer (some ⟨hb, 0, none⟩)), (1, .int .i64 (few : Int))] ha Tryd.func50 rfl Tryd.ntmps50 rfl rfl ?_
  refine cod_seq ?_
  refine cod_region ?_
  refine lst_alloc rfl F.ti24 ?_
  intro b4
  refine lst_nil ?_
  refine ex_then ?_
  refine cod_seq ?_
  refine cod_ghost (G := Nat × Nat × Nat × Nat × Nat) (fun g => g.2.1 < 18446744073709551616 ∧ g.2.2.1 < 64 ∧ g.2.2.2.1 < 64 ∧ 1 ≤ g.2.2.2.2 ∧ g.2.2.2.2 ≤ 9) (fun g => [(0, .pointer (some ⟨hb, 0, none⟩)), (1, .int .i64 (few : Int)), (4, .pointer (some ⟨b4, 0, none⟩)), (5, .pointer (some ⟨g.1, 0, none⟩))]) (fun g => .blk hb (hatO nA nums.length nc (tk + 1 + few + few + 1) (g.2.1)) :: .blk g.1 (.cells [.int .i64 ((0 : Nat) : Int), .int .i64 ((0 : Nat) : Int), .int .i64 (g.2.2.1 : Int), .int .i64 (g.2.2.2.1 : Int), .int .i64 (g.2.2.2.2 : Int)].toArray 24 (0, 0)) :: .blk b4 (.cells [.int .i64 0, .int .i64 0, .int .i64 0, .int .i64 0, .int .i64 0].toArray 24 (0, 0)) :: T) ?_ ?_
  · skip
    refine any_begin [.b hb] F.follows 17 rfl [false, false, false, false, false, false, false, false, false, false, false, false, false, false, false, false, false] rfl ?_
    refine any_take (listed' := [true, false, false, false, false, false, false, false, false, false, false, false, false, false, false, false, false].toArray) 0 rfl rfl rfl (by kernel_rfl) (by kernel_rfl) (by kernel_rfl) (by repeat (first | exact List.Sublist.refl _ | exact List.nil_sublist _ | refine List.Sublist.cons_cons _ ?_ | refine List.Sublist.cons _ ?_)) (yld_move rfl) rfl ?_
    refine any_take (listed' := [true, true, false, false, false, false, false, false, false, false, false, false, false, false, false, false, false].toArray) 1 rfl rfl rfl (by kernel_rfl) (by kernel_rfl) (by kernel_rfl) (by repeat (first | exact List.Sublist.refl _ | exact List.nil_sublist _ | refine List.Sublist.cons_cons _ ?_ | refine List.Sublist.cons _ ?_)) (yld_move rfl) rfl ?_
    refine any_take (listed' := [true, true, true, false, false, false, false, false, false, false, false, false, false, false, false, false, false].toArray) 2 rfl rfl rfl (by kernel_rfl) (by kernel_rfl) (by kernel_rfl) (by repeat (first | exact List.Sublist.refl _ | exact List.nil_sublist _ | refine List.Sublist.cons_cons _ ?_ | refine List.Sublist.cons _ ?_)) (yld_int rfl rfl (fun w => bin_sub w (wrap_i64' ((few : Int) - 1) (by omega) (by omega)))) rfl ?_
    refine any_take (listed' := [true, true, true, false, false, true, false, false, false, false, false, false, false, false, false, false, false].toArray) 5 rfl rfl rfl (by kernel_rfl) (by kernel_rfl) (by kernel_rfl) (by repeat (first | exact List.Sublist.refl _ | exact List.nil_sublist _ | refine List.Sublist.cons_cons _ ?_ | refine List.Sublist.cons _ ?_)) (yld_move rfl) rfl ?_
    refine any_take (listed' := [true, true, true, false, false, true, true, false, false, false, false, false, false, false, false, false, false].toArray) 6 rfl rfl rfl (by kernel_rfl) (by kernel_rfl) (by kernel_rfl) (by repeat (first | exact List.Sublist.refl _ | exact List.nil_sublist _ | refine List.Sublist.cons_cons _ ?_ | refine List.Sublist.cons _ ?_)) (yld_move rfl) rfl ?_
    refine any_take (listed' := [true, true, true, false, false, true, true, false, true, false, false, false, false, false, false, false, false].toArray) 8 rfl rfl rfl (by kernel_rfl) (by kernel_rfl) (by kernel_rfl) (by repeat (first | exact List.Sublist.refl _ | exact List.nil_sublist _ | refine List.Sublist.cons_cons _ ?_ | refine List.Sublist.cons _ ?_)) (yld_move rfl) rfl ?_
    refine any_take (listed' := [true, true, true, false, false, true, true, false, true, true, false, false, false, false, false, false, false].toArray) 9 rfl rfl rfl (by kernel_rfl) (by kernel_rfl) (by kernel_rfl) (by repeat (first | exact List.Sublist.refl _ | exact List.nil_sublist _ | refine List.Sublist.cons_cons _ ?_ | refine List.Sublist.cons _ ?_)) (yld_move rfl) rfl ?_
    refine any_take (listed' := [true, true, true, false, false, true, true, false, true, true, false, false, true, false, false, false, false].toArray) 12 rfl rfl rfl (by kernel_rfl) (by kernel_rfl) (by kernel_rfl) (by repeat (first | exact List.Sublist.refl _ | exact List.nil_sublist _ | refine List.Sublist.cons_cons _ ?_ | refine List.Sublist.cons _ ?_)) (yld_move rfl) rfl ?_
    refine any_two (l1 := [true, true, true, true, false, true, true, false, true, true, false, false, true, false, false, false, false].toArray) (l2 := [true, true, true, false, false, true, true, false, true, true, false, false, true, false, false, true, false].toArray) 3 15 (by kernel_rfl) rfl rfl rfl rfl ?_ ?_
    · skip
      refine lst_call_pul (X := Nat × Nat) (vs := [_, _]) hb (fun y => hatO nA nums.length nc (tk + 1) (y.1)) (fun y => y.1 < 18446744073709551616 ∧ y.2 ≤ ((few : Int) - 1 : Int).toNat) (fun y => .int .i64 (y.2 : Int)) rfl rfl F.ent25 (fun a w ha => (To_c (C := ⟨Tryd.prog, B, w0, _, _⟩) rfl hB hN (tk := tk) (st := st) (n := (few : Int) - 1) (by omega) hst (by omega) ha).mono (fun e w' h => by obtain ⟨s', x, h1, h2, h3, h4⟩ := h; exact ⟨(s', x), ⟨h1, h2⟩, h3, h4⟩)) ?_
      rintro ⟨s1, t1⟩ ⟨hs1, ht1⟩
      dsimp only at hs1 ht1 ⊢
      have hlt1 : 2 ^ t1 < 64 := pow64 ht1 hf1 hfew
      refine lst_nil ?_
      refine any_next (by repeat (first | exact List.Sublist.refl _ | exact List.nil_sublist _ | refine List.Sublist.cons_cons _ ?_ | refine List.Sublist.cons _ ?_)) ?_
      refine any_take (listed' := [true, true, true, true, true, true, true, false, true, true, false, false, true, false, false, false, false].toArray) 4 rfl rfl rfl (by kernel_rfl) (by kernel_rfl) (by kernel_rfl) (by repeat (first | exact List.Sublist.refl _ | exact List.nil_sublist _ | refine List.Sublist.cons_cons _ ?_ | refine List.Sublist.cons _ ?_)) (yld_shl rfl rfl (by omega) (shl_i64 (by omega))) rfl ?_
      refine any_two (l1 := [true, true, true, true, true, true, true, true, true, true, false, false, true, false, false, false, false].toArray) (l2 := [true, true, true, true, true, true, true, false, true, true, false, false, true, false, false, true, false].toArray) 7 15 (by kernel_rfl) rfl rfl rfl rfl ?_ ?_
      · skip
        refine lst_call_pul (X := Nat × Nat) (vs := [_, _]) hb (fun y => hatO nA nums.length nc (tk + 1 + few) (y.1)) (fun y => y.1 < 18446744073709551616 ∧ y.2 < 2 ^ few) (fun y => .int .i64 (y.2 : Int)) rfl rfl F.ent63 (fun a w ha => (FaultsOf_c (C := ⟨Tryd.prog, B, w0, _, _⟩) rfl hB hN (tk := tk + 1) (st := s1) (few := few) (by omega) hs1 hfew ha).mono (fun e w' h => by obtain ⟨s', x, h1, h2, h3, h4⟩ := h; exact ⟨(s', x), ⟨h1, h2⟩, h3, h4⟩)) ?_
        rintro ⟨s2, f1⟩ ⟨hs2, hf1⟩
        dsimp only at hs2 hf1 ⊢
        have hlf1 : f1 < 64 := few64 hf1 hfew
        refine lst_nil ?_
        refine any_next (by repeat (first | exact List.Sublist.refl _ | exact List.nil_sublist _ | refine List.Sublist.cons_cons _ ?_ | refine List.Sublist.cons _ ?_)) ?_
        refine any_two (l1 := [true, true, true, true, true, true, true, true, true, true, true, false, true, false, false, false, false].toArray) (l2 := [true, true, true, true, true, true, true, true, true, true, false, false, true, false, false, true, false].toArray) 10 15 (by kernel_rfl) rfl rfl rfl rfl ?_ ?_
        · skip
          refine lst_call_pul (X := Nat × Nat) (vs := [_, _]) hb (fun y => hatO nA nums.length nc (tk + 1 + few + few) (y.1)) (fun y => y.1 < 18446744073709551616 ∧ y.2 < 2 ^ few) (fun y => .int .i64 (y.2 : Int)) rfl rfl F.ent63 (fun a w ha => (FaultsOf_c (C := ⟨Tryd.prog, B, w0, _, _⟩) rfl hB hN (tk := tk + 1 + few) (st := s2) (few := few) (by omega) hs2 hfew ha).mono (fun e w' h => by obtain ⟨s', x, h1, h2, h3, h4⟩ := h; exact ⟨(s', x), ⟨h1, h2⟩, h3, h4⟩)) ?_
          rintro ⟨s3, f2⟩ ⟨hs3, hf2⟩
          dsimp only at hs3 hf2 ⊢
          have hlf2 : f2 < 64 := few64 hf2 hfew
          refine lst_nil ?_
          refine any_next (by repeat (first | exact List.Sublist.refl _ | exact List.nil_sublist _ | refine List.Sublist.cons_cons _ ?_ | refine List.Sublist.cons _ ?_)) ?_
          refine any_take (listed' := [true, true, true, true, true, true, true, true, true, true, true, true, true, false, false, false, false].toArray) 11 rfl rfl rfl (by kernel_rfl) (by kernel_rfl) (by kernel_rfl) (by repeat (first | exact List.Sublist.refl _ | exact List.nil_sublist _ | refine List.Sublist.cons_cons _ ?_ | refine List.Sublist.cons _ ?_)) (yld_int rfl rfl (fun w => bin_and w (i64_and f1 f2 (by omega) (by omega)))) rfl ?_
          refine any_two (l1 := [true, true, true, true, true, true, true, true, true, true, true, true, true, true, false, false, false].toArray) (l2 := [true, true, true, true, true, true, true, true, true, true, true, true, true, false, false, true, false].toArray) 13 15 (by kernel_rfl) rfl rfl rfl rfl ?_ ?_
          · skip
            refine lst_call_pul (X := Nat × Nat) (vs := [_, _, _]) hb (fun y => hatO nA nums.length nc (tk + 1 + few + few + 1) (y.1)) (fun y => y.1 < 18446744073709551616 ∧ 1 ≤ y.2 ∧ y.2 ≤ 9) (fun y => .int .i64 (y.2 : Int)) rfl rfl F.ent87 (fun a w ha => (From_c (C := ⟨Tryd.prog, B, w0, _, _⟩) rfl hB hN (tk := tk + 1 + few + few) (st := s3) (lo := 1) (hi := 9) (by omega) hs3 (by omega) (by omega) ha).mono (fun e w' h => by obtain ⟨s', x, h1, h2, h3, h4, h5⟩ := h; exact ⟨(s', x), ⟨h1, h2, h3⟩, h4, h5⟩)) ?_
            rintro ⟨s4, c1⟩ ⟨hs4, hc1a, hc1b⟩
            dsimp only at hs4 hc1a hc1b ⊢
            refine lst_nil ?_
            refine any_next (by repeat (first | exact List.Sublist.refl _ | exact List.nil_sublist _ | refine List.Sublist.cons_cons _ ?_ | refine List.Sublist.cons _ ?_)) ?_
            refine any_take (listed' := [true, true, true, true, true, true, true, true, true, true, true, true, true, true, true, false, false].toArray) 14 rfl rfl rfl (by kernel_rfl) (by kernel_rfl) (by kernel_rfl) (by repeat (first | exact List.Sublist.refl _ | exact List.nil_sublist _ | refine List.Sublist.cons_cons _ ?_ | refine List.Sublist.cons _ ?_)) (yld_struct (vs := [(2, _), (3, _), (4, _)]) (l' := [_, _, _, _, _]) rfl F.ti24 F.pl24 (.cons rfl rfl (.cons rfl rfl (.cons rfl rfl (.nil _)))) rfl) rfl ?_
            refine any_one (listed' := [true, true, true, true, true, true, true, true, true, true, true, true, true, true, true, true, false].toArray) 15 (by kernel_rfl) rfl rfl ?_
            refine lst_alloc rfl F.ti24 ?_
            intro b5
            refine lst_nil ?_
            refine any_next (by repeat (first | exact List.Sublist.refl _ | exact List.nil_sublist _ | refine List.Sublist.cons_cons _ ?_ | refine List.Sublist.cons _ ?_)) ?_
            refine any_one (listed' := [true, true, true, true, true, true, true, true, true, true, true, true, true, true, true, true, true].toArray) 16 (by kernel_rfl) rfl rfl ?_
            refine lst_store rfl rfl F.ti24 rfl ?_
            refine lst_nil ?_
            refine any_next (by repeat (first | exact List.Sublist.refl _ | exact List.nil_sublist _ | refine List.Sublist.cons_cons _ ?_ | refine List.Sublist.cons _ ?_)) ?_
            refine any_done rfl (by kernel_rfl) ?_
            exact ex_ghost (b5, s4, 2 ^ t1, f1 &&& f2, c1) ⟨hs4, hlt1, and64 hlf1, hc1a, hc1b⟩ (by repeat (first | exact Sub.nil _ | refine Sub.cons rfl ?_)) (by repeat (first | exact Pck.nil _ | exact Pck.refl _ | (apply Pck.cons; focus ((repeat (first | exact Rem.here _ | apply Rem.there)); done)) | refine Pck.skip _ ?_))
          · skip
            refine lst_alloc rfl F.ti24 ?_
            intro b5
            refine lst_nil ?_
            refine any_next (by repeat (first | exact List.Sublist.refl _ | exact List.nil_sublist _ | refine List.Sublist.cons_cons _ ?_ | refine List.Sublist.cons _ ?_)) ?_
            refine any_one (listed' := [true, true, true, true, true, true, true, true, true, true, true, true, true, true, false, true, false].toArray) 13 (by kernel_rfl) rfl rfl ?_
            refine lst_call_pul (X := Nat × Nat) (vs := [_, _, _]) hb (fun y => hatO nA nums.length nc (tk + 1 + few + few + 1) (y.1)) (fun y => y.1 < 18446744073709551616 ∧ 1 ≤ y.2 ∧ y.2 ≤ 9) (fun y => .int .i64 (y.2 : Int)) rfl rfl F.ent87 (fun a w ha => (From_c (C := ⟨Tryd.prog, B, w0, _, _⟩) rfl hB hN (tk := tk + 1 + few + few) (st := s3) (lo := 1) (hi := 9) (by omega) hs3 (by omega) (by omega) ha).mono (fun e w' h => by obtain ⟨s', x, h1, h2, h3, h4, h5⟩ := h; exact ⟨(s', x), ⟨h1, h2, h3⟩, h4, h5⟩)) ?_
            rintro ⟨s4, c1⟩ ⟨hs4, hc1a, hc1b⟩
            dsimp only at hs4 hc1a hc1b ⊢
            refine lst_nil ?_
            refine any_next (by repeat (first | exact List.Sublist.refl _ | exact List.nil_sublist _ | refine List.Sublist.cons_cons _ ?_ | refine List.Sublist.cons _ ?_)) ?_
            refine any_take (listed' := [true, true, true, true, true, true, true, true, true, true, true, true, true, true, true, true, false].toArray) 14 rfl rfl rfl (by kernel_rfl) (by kernel_rfl) (by kernel_rfl) (by repeat (first | exact List.Sublist.refl _ | exact List.nil_sublist _ | refine List.Sublist.cons_cons _ ?_ | refine List.Sublist.cons _ ?_)) (yld_struct (vs := [(2, _), (3, _), (4, _)]) (l' := [_, _, _, _, _]) rfl F.ti24 F.pl24 (.cons rfl rfl (.cons rfl rfl (.cons rfl rfl (.nil _)))) rfl) rfl ?_
            refine any_one (listed' := [true, true, true, true, true, true, true, true, true, true, true, true, true, true, true, true, true].toArray) 16 (by kernel_rfl) rfl rfl ?_
            refine lst_store rfl rfl F.ti24 rfl ?_
            refine lst_nil ?_
            refine any_next (by repeat (first | exact List.Sublist.refl _ | exact List.nil_sublist _ | refine List.Sublist.cons_cons _ ?_ | refine List.Sublist.cons _ ?_)) ?_
            refine any_done rfl (by kernel_rfl) ?_
            exact ex_ghost (b5, s4, 2 ^ t1, f1 &&& f2, c1) ⟨hs4, hlt1, and64 hlf1, hc1a, hc1b⟩ (by repeat (first | exact Sub.nil _ | refine Sub.cons rfl ?_)) (by repeat (first | exact Pck.nil _ | exact Pck.refl _ | (apply Pck.cons; focus ((repeat (first | exact Rem.here _ | apply Rem.there)); done)) | refine Pck.skip _ ?_))
        · skip
          refine lst_alloc rfl F.ti24 ?_
          intro b5
          refine lst_nil ?_
          refine any_next (by repeat (first | exact List.Sublist.refl _ | exact List.nil_sublist _ | refine List.Sublist.cons_cons _ ?_ | refine List.Sublist.cons _ ?_)) ?_
          refine any_one (listed' := [true, true, true, true, true, true, true, true, true, true, true, false, true, false, false, true, false].toArray) 10 (by kernel_rfl) rfl rfl ?_
          refine lst_call_pul (X := Nat × Nat) (vs := [_, _]) hb (fun y => hatO nA nums.length nc (tk + 1 + few + few) (y.1)) (fun y => y.1 < 18446744073709551616 ∧ y.2 < 2 ^ few) (fun y => .int .i64 (y.2 : Int)) rfl rfl F.ent63 (fun a w ha => (FaultsOf_c (C := ⟨Tryd.prog, B, w0, _, _⟩) rfl hB hN (tk := tk + 1 + few) (st := s2) (few := few) (by omega) hs2 hfew ha).mono (fun e w' h => by obtain ⟨s', x, h1, h2, h3, h4⟩ := h; exact ⟨(s', x), ⟨h1, h2⟩, h3, h4⟩)) ?_
          rintro ⟨s3, f2⟩ ⟨hs3, hf2⟩
          dsimp only at hs3 hf2 ⊢
          have hlf2 : f2 < 64 := few64 hf2 hfew
          refine lst_nil ?_
          refine any_next (by repeat (first | exact List.Sublist.refl _ | exact List.nil_sublist _ | refine List.Sublist.cons_cons _ ?_ | refine List.Sublist.cons _ ?_)) ?_
          refine any_take (listed' := [true, true, true, true, true, true, true, true, true, true, true, true, true, false, false, true, false].toArray) 11 rfl rfl rfl (by kernel_rfl) (by kernel_rfl) (by kernel_rfl) (by repeat (first | exact List.Sublist.refl _ | exact List.nil_sublist _ | refine List.Sublist.cons_cons _ ?_ | refine List.Sublist.cons _ ?_)) (yld_int rfl rfl (fun w => bin_and w (i64_and f1 f2 (by omega) (by omega)))) rfl ?_
          refine any_one (listed' := [true, true, true, true, true, true, true, true, true, true, true, true, true, true, false, true, false].toArray) 13 (by kernel_rfl) rfl rfl ?_
          refine lst_call_pul (X := Nat × Nat) (vs := [_, _, _]) hb (fun y => hatO nA nums.length nc (tk + 1 + few + few + 1) (y.1)) (fun y => y.1 < 18446744073709551616 ∧ 1 ≤ y.2 ∧ y.2 ≤ 9) (fun y => .int .i64 (y.2 : Int)) rfl rfl F.ent87 (fun a w ha => (From_c (C := ⟨Tryd.prog, B, w0, _, _⟩) rfl hB hN (tk := tk + 1 + few + few) (st := s3) (lo := 1) (hi := 9) (by omega) hs3 (by omega) (by omega) ha).mono (fun e w' h => by obtain ⟨s', x, h1, h2, h3, h4, h5⟩ := h; exact ⟨(s', x), ⟨h1, h2, h3⟩, h4, h5⟩)) ?_
          rintro ⟨s4, c1⟩ ⟨hs4, hc1a, hc1b⟩
          dsimp only at hs4 hc1a hc1b ⊢
          refine lst_nil ?_
          refine any_next (by repeat (first | exact List.Sublist.refl _ | exact List.nil_sublist _ | refine List.Sublist.cons_cons _ ?_ | refine List.Sublist.cons _ ?_)) ?_
          refine any_take (listed' := [true, true, true, true, true, true, true, true, true, true, true, true, true, true, true, true, false].toArray) 14 rfl rfl rfl (by kernel_rfl) (by kernel_rfl) (by kernel_rfl) (by repeat (first | exact List.Sublist.refl _ | exact List.nil_sublist _ | refine List.Sublist.cons_cons _ ?_ | refine List.Sublist.cons _ ?_)) (yld_struct (vs := [(2, _), (3, _), (4, _)]) (l' := [_, _, _, _, _]) rfl F.ti24 F.pl24 (.cons rfl rfl (.cons rfl rfl (.cons rfl rfl (.nil _)))) rfl) rfl ?_
          refine any_one (listed' := [true, true, true, true, true, true, true, true, true, true, true, true, true, true, true, true, true].toArray) 16 (by kernel_rfl) rfl rfl ?_
          refine lst_store rfl rfl F.ti24 rfl ?_
          refine lst_nil ?_
          refine any_next (by repeat (first | exact List.Sublist.refl _ | exact List.nil_sublist _ | refine List.Sublist.cons_cons _ ?_ | refine List.Sublist.cons _ ?_)) ?_
          refine any_done rfl (by kernel_rfl) ?_
          exact ex_ghost (b5, s4, 2 ^ t1, f1 &&& f2, c1) ⟨hs4, hlt1, and64 hlf1, hc1a, hc1b⟩ (by repeat (first | exact Sub.nil _ | refine Sub.cons rfl ?_)) (by repeat (first | exact Pck.nil _ | exact Pck.refl _ | (apply Pck.cons; focus ((repeat (first | exact Rem.here _ | apply Rem.there)); done)) | refine Pck.skip _ ?_))
      · skip
        refine lst_alloc rfl F.ti24 ?_
        intro b5
        refine lst_nil ?_
        refine any_next (by repeat (first | exact List.Sublist.refl _ | exact List.nil_sublist _ | refine List.Sublist.cons_cons _ ?_ | refine List.Sublist.cons _ ?_)) ?_
        refine any_one (listed' := [true, true, true, true, true, true, true, true, true, true, false, false, true, false, false, true, false].toArray) 7 (by kernel_rfl) rfl rfl ?_
        refine lst_call_pul (X := Nat × Nat) (vs := [_, _]) hb (fun y => hatO nA nums.length nc (tk + 1 + few) (y.1)) (fun y => y.1 < 18446744073709551616 ∧ y.2 < 2 ^ few) (fun y => .int .i64 (y.2 : Int)) rfl rfl F.ent63 (fun a w ha => (FaultsOf_c (C := ⟨Tryd.prog, B, w0, _, _⟩) rfl hB hN (tk := tk + 1) (st := s1) (few := few) (by omega) hs1 hfew ha).mono (fun e w' h => by obtain ⟨s', x, h1, h2, h3, h4⟩ := h; exact ⟨(s', x), ⟨h1, h2⟩, h3, h4⟩)) ?_
        rintro ⟨s2, f1⟩ ⟨hs2, hf1⟩
        dsimp only at hs2 hf1 ⊢
        have hlf1 : f1 < 64 := few64 hf1 hfew
        refine lst_nil ?_
        refine any_next (by repeat (first | exact List.Sublist.refl _ | exact List.nil_sublist _ | refine List.Sublist.cons_cons _ ?_ | refine List.Sublist.cons _ ?_)) ?_
        refine any_one (listed' := [true, true, true, true, true, true, true, true, true, true, true, false, true, false, false, true, false].toArray) 10 (by kernel_rfl) rfl rfl ?_
        refine lst_call_pul (X := Nat × Nat) (vs := [_, _]) hb (fun y => hatO nA nums.length nc (tk + 1 + few + few) (y.1)) (fun y => y.1 < 18446744073709551616 ∧ y.2 < 2 ^ few) (fun y => .int .i64 (y.2 : Int)) rfl rfl F.ent63 (fun a w ha => (FaultsOf_c (C := ⟨Tryd.prog, B, w0, _, _⟩) rfl hB hN (tk := tk + 1 + few) (st := s2) (few := few) (by omega) hs2 hfew ha).mono (fun e w' h => by obtain ⟨s', x, h1, h2, h3, h4⟩ := h; exact ⟨(s', x), ⟨h1, h2⟩, h3, h4⟩)) ?_
        rintro ⟨s3, f2⟩ ⟨hs3, hf2⟩
        dsimp only at hs3 hf2 ⊢
        have hlf2 : f2 < 64 := few64 hf2 hfew
        refine lst_nil ?_
        refine any_next (by repeat (first | exact List.Sublist.refl _ | exact List.nil_sublist _ | refine List.Sublist.cons_cons _ ?_ | refine List.Sublist.cons _ ?_)) ?_
        refine any_take (listed' := [true, true, true, true, true, true, true, true, true, true, true, true, true, false, false, true, false].toArray) 11 rfl rfl rfl (by kernel_rfl) (by kernel_rfl) (by kernel_rfl) (by repeat (first | exact List.Sublist.refl _ | exact List.nil_sublist _ | refine List.Sublist.cons_cons _ ?_ | refine List.Sublist.cons _ ?_)) (yld_int rfl rfl (fun w => bin_and w (i64_and f1 f2 (by omega) (by omega)))) rfl ?_
        refine any_one (listed' := [true, true, true, true, true, true, true, true, true, true, true, true, true, true, false, true, false].toArray) 13 (by kernel_rfl) rfl rfl ?_
        refine lst_call_pul (X := Nat × Nat) (vs := [_, _, _]) hb (fun y => hatO nA nums.length nc (tk + 1 + few + few + 1) (y.1)) (fun y => y.1 < 18446744073709551616 ∧ 1 ≤ y.2 ∧ y.2 ≤ 9) (fun y => .int .i64 (y.2 : Int)) rfl rfl F.ent87 (fun a w ha => (From_c (C := ⟨Tryd.prog, B, w0, _, _⟩) rfl hB hN (tk := tk + 1 + few + few) (st := s3) (lo := 1) (hi := 9) (by omega) hs3 (by omega) (by omega) ha).mono (fun e w' h => by obtain ⟨s', x, h1, h2, h3, h4, h5⟩ := h; exact ⟨(s', x), ⟨h1, h2, h3⟩, h4, h5⟩)) ?_
        rintro ⟨s4, c1⟩ ⟨hs4, hc1a, hc1b⟩
        dsimp only at hs4 hc1a hc1b ⊢
        refine lst_nil ?_
        refine any_next (by repeat (first | exact List.Sublist.refl _ | exact List.nil_sublist _ | refine List.Sublist.cons_cons _ ?_ | refine List.Sublist.cons _ ?_)) ?_
        refine any_take (listed' := [true, true, true, true, true, true, true, true, true, true, true, true, true, true, true, true, false].toArray) 14 rfl rfl rfl (by kernel_rfl) (by kernel_rfl) (by kernel_rfl) (by repeat (first | exact List.Sublist.refl _ | exact List.nil_sublist _ | refine List.Sublist.cons_cons _ ?_ | refine List.Sublist.cons _ ?_)) (yld_struct (vs := [(2, _), (3, _), (4, _)]) (l' := [_, _, _, _, _]) rfl F.ti24 F.pl24 (.cons rfl rfl (.cons rfl rfl (.cons rfl rfl (.nil _)))) rfl) rfl ?_
        refine any_one (listed' := [true, true, true, true, true, true, true, true, true, true, true, true, true, true, true, true, true].toArray) 16 (by kernel_rfl) rfl rfl ?_
        refine lst_store rfl rfl F.ti24 rfl ?_
        refine lst_nil ?_
        refine any_next (by repeat (first | exact List.Sublist.refl _ | exact List.nil_sublist _ | refine List.Sublist.cons_cons _ ?_ | refine List.Sublist.cons _ ?_)) ?_
        refine any_done rfl (by kernel_rfl) ?_
        exact ex_ghost (b5, s4, 2 ^ t1, f1 &&& f2, c1) ⟨hs4, hlt1, and64 hlf1, hc1a, hc1b⟩ (by repeat (first | exact Sub.nil _ | refine Sub.cons rfl ?_)) (by repeat (first | exact Pck.nil _ | exact Pck.refl _ | (apply Pck.cons; focus ((repeat (first | exact Rem.here _ | apply Rem.there)); done)) | refine Pck.skip _ ?_))
    · skip
      refine lst_alloc rfl F.ti24 ?_
      intro b5
      refine lst_nil ?_
      refine any_next (by repeat (first | exact List.Sublist.refl _ | exact List.nil_sublist _ | refine List.Sublist.cons_cons _ ?_ | refine List.Sublist.cons _ ?_)) ?_
      refine any_one (listed' := [true, true, true, true, false, true, true, false, true, true, false, false, true, false, false, true, false].toArray) 3 (by kernel_rfl) rfl rfl ?_
      refine lst_call_pul (X := Nat × Nat) (vs := [_, _]) hb (fun y => hatO nA nums.length nc (tk + 1) (y.1)) (fun y => y.1 < 18446744073709551616 ∧ y.2 ≤ ((few : Int) - 1 : Int).toNat) (fun y => .int .i64 (y.2 : Int)) rfl rfl F.ent25 (fun a w ha => (To_c (C := ⟨Tryd.prog, B, w0, _, _⟩) rfl hB hN (tk := tk) (st := st) (n := (few : Int) - 1) (by omega) hst (by omega) ha).mono (fun e w' h => by obtain ⟨s', x, h1, h2, h3, h4⟩ := h; exact ⟨(s', x), ⟨h1, h2⟩, h3, h4⟩)) ?_
      rintro ⟨s1, t1⟩ ⟨hs1, ht1⟩
      dsimp only at hs1 ht1 ⊢
      have hlt1 : 2 ^ t1 < 64 := pow64 ht1 hf1 hfew
      refine lst_nil ?_
      refine any_next (by repeat (first | exact List.Sublist.refl _ | exact List.nil_sublist _ | refine List.Sublist.cons_cons _ ?_ | refine List.Sublist.cons _ ?_)) ?_
      refine any_take (listed' := [true, true, true, true, true, true, true, false, true, true, false, false, true, false, false, true, false].toArray) 4 rfl rfl rfl (by kernel_rfl) (by kernel_rfl) (by kernel_rfl) (by repeat (first | exact List.Sublist.refl _ | exact List.nil_sublist _ | refine List.Sublist.cons_cons _ ?_ | refine List.Sublist.cons _ ?_)) (yld_shl rfl rfl (by omega) (shl_i64 (by omega))) rfl ?_
      refine any_one (listed' := [true, true, true, true, true, true, true, true, true, true, false, false, true, false, false, true, false].toArray) 7 (by kernel_rfl) rfl rfl ?_
      refine lst_call_pul (X := Nat × Nat) (vs := [_, _]) hb (fun y => hatO nA nums.length nc (tk + 1 + few) (y.1)) (fun y => y.1 < 18446744073709551616 ∧ y.2 < 2 ^ few) (fun y => .int .i64 (y.2 : Int)) rfl rfl F.ent63 (fun a w ha => (FaultsOf_c (C := ⟨Tryd.prog, B, w0, _, _⟩) rfl hB hN (tk := tk + 1) (st := s1) (few := few) (by omega) hs1 hfew ha).mono (fun e w' h => by obtain ⟨s', x, h1, h2, h3, h4⟩ := h; exact ⟨(s', x), ⟨h1, h2⟩, h3, h4⟩)) ?_
      rintro ⟨s2, f1⟩ ⟨hs2, hf1⟩
      dsimp only at hs2 hf1 ⊢
      have hlf1 : f1 < 64 := few64 hf1 hfew
      refine lst_nil ?_
      refine any_next (by repeat (first | exact List.Sublist.refl _ | exact List.nil_sublist _ | refine List.Sublist.cons_cons _ ?_ | refine List.Sublist.cons _ ?_)) ?_
      refine any_one (listed' := [true, true, true, true, true, true, true, true, true, true, true, false, true, false, false, true, false].toArray) 10 (by kernel_rfl) rfl rfl ?_
      refine lst_call_pul (X := Nat × Nat) (vs := [_, _]) hb (fun y => hatO nA nums.length nc (tk + 1 + few + few) (y.1)) (fun y => y.1 < 18446744073709551616 ∧ y.2 < 2 ^ few) (fun y => .int .i64 (y.2 : Int)) rfl rfl F.ent63 (fun a w ha => (FaultsOf_c (C := ⟨Tryd.prog, B, w0, _, _⟩) rfl hB hN (tk := tk + 1 + few) (st := s2) (few := few) (by omega) hs2 hfew ha).mono (fun e w' h => by obtain ⟨s', x, h1, h2, h3, h4⟩ := h; exact ⟨(s', x), ⟨h1, h2⟩, h3, h4⟩)) ?_
      rintro ⟨s3, f2⟩ ⟨hs3, hf2⟩
      dsimp only at hs3 hf2 ⊢
      have hlf2 : f2 < 64 := few64 hf2 hfew
      refine lst_nil ?_
      refine any_next (by repeat (first | exact List.Sublist.refl _ | exact List.nil_sublist _ | refine List.Sublist.cons_cons _ ?_ | refine List.Sublist.cons _ ?_)) ?_
      refine any_take (listed' := [true, true, true, true, true, true, true, true, true, true, true, true, true, false, false, true, false].toArray) 11 rfl rfl rfl (by kernel_rfl) (by kernel_rfl) (by kernel_rfl) (by repeat (first | exact List.Sublist.refl _ | exact List.nil_sublist _ | refine List.Sublist.cons_cons _ ?_ | refine List.Sublist.cons _ ?_)) (yld_int rfl rfl (fun w => bin_and w (i64_and f1 f2 (by omega) (by omega)))) rfl ?_
      refine any_one (listed' := [true, true, true, true, true, true, true, true, true, true, true, true, true, true, false, true, false].toArray) 13 (by kernel_rfl) rfl rfl ?_
      refine lst_call_pul (X := Nat × Nat) (vs := [_, _, _]) hb (fun y => hatO nA nums.length nc (tk + 1 + few + few + 1) (y.1)) (fun y => y.1 < 18446744073709551616 ∧ 1 ≤ y.2 ∧ y.2 ≤ 9) (fun y => .int .i64 (y.2 : Int)) rfl rfl F.ent87 (fun a w ha => (From_c (C := ⟨Tryd.prog, B, w0, _, _⟩) rfl hB hN (tk := tk + 1 + few + few) (st := s3) (lo := 1) (hi := 9) (by omega) hs3 (by omega) (by omega) ha).mono (fun e w' h => by obtain ⟨s', x, h1, h2, h3, h4, h5⟩ := h; exact ⟨(s', x), ⟨h1, h2, h3⟩, h4, h5⟩)) ?_
      rintro ⟨s4, c1⟩ ⟨hs4, hc1a, hc1b⟩
      dsimp only at hs4 hc1a hc1b ⊢
      refine lst_nil ?_
      refine any_next (by repeat (first | exact List.Sublist.refl _ | exact List.nil_sublist _ | refine List.Sublist.cons_cons _ ?_ | refine List.Sublist.cons _ ?_)) ?_
      refine any_take (listed' := [true, true, true, true, true, true, true, true, true, true, true, true, true, true, true, true, false].toArray) 14 rfl rfl rfl (by kernel_rfl) (by kernel_rfl) (by kernel_rfl) (by repeat (first | exact List.Sublist.refl _ | exact List.nil_sublist _ | refine List.Sublist.cons_cons _ ?_ | refine List.Sublist.cons _ ?_)) (yld_struct (vs := [(2, _), (3, _), (4, _)]) (l' := [_, _, _, _, _]) rfl F.ti24 F.pl24 (.cons rfl rfl (.cons rfl rfl (.cons rfl rfl (.nil _)))) rfl) rfl ?_
      refine any_one (listed' := [true, true, true, true, true, true, true, true, true, true, true, true, true, true, true, true, true].toArray) 16 (by kernel_rfl) rfl rfl ?_
      refine lst_store rfl rfl F.ti24 rfl ?_
      refine lst_nil ?_
      refine any_next (by repeat (first | exact List.Sublist.refl _ | exact List.nil_sublist _ | refine List.Sublist.cons_cons _ ?_ | refine List.Sublist.cons _ ?_)) ?_
      refine any_done rfl (by kernel_rfl) ?_
      exact ex_ghost (b5, s4, 2 ^ t1, f1 &&& f2, c1) ⟨hs4, hlt1, and64 hlf1, hc1a, hc1b⟩ (by repeat (first | exact Sub.nil _ | refine Sub.cons rfl ?_)) (by repeat (first | exact Pck.nil _ | exact Pck.refl _ | (apply Pck.cons; focus ((repeat (first | exact Rem.here _ | apply Rem.there)); done)) | refine Pck.skip _ ?_))
  · skip
    rintro ⟨b5, s4, k0, l0, c0⟩ ⟨hs4, hk0, hl0, hc0a, hc0b⟩
    dsimp only at hs4 hk0 hl0 hc0a hc0b ⊢
    refine ex_then ?_
    refine cod_seq ?_
    refine cod_ghost (G := Nat × Nat) (fun g => g.1 < 18446744073709551616 ∧ g.2 < 64) (fun g => [(0, .pointer (some ⟨hb, 0, none⟩)), (1, .int .i64 (few : Int)), (4, .pointer (some ⟨b4, 0, none⟩)), (5, .pointer (some ⟨b5, 0, none⟩))]) (fun g => .blk hb (hatO nA nums.length nc (tk + 1 + few + few + 1 + few + few) (g.1)) :: .blk b5 (.cells [.int .i64 ((0 : Nat) : Int), .int .i64 ((0 : Nat) : Int), .int .i64 (g.2 : Int), .int .i64 (l0 : Int), .int .i64 (c0 : Int)].toArray 24 (0, 0)) :: .blk b4 (.cells [.int .i64 0, .int .i64 0, .int .i64 0, .int .i64 0, .int .i64 0].toArray 24 (0, 0)) :: T) ?_ ?_
    · skip
      refine any_begin [.b b5, .b hb] F.follows 12 rfl [false, false, false, false, false, false, false, false, false, false, false, false] rfl ?_
      refine any_take (listed' := [true, false, false, false, false, false, false, false, false, false, false, false].toArray) 0 rfl rfl rfl (by kernel_rfl) (by kernel_rfl) (by kernel_rfl) (by repeat (first | exact List.Sublist.refl _ | exact List.nil_sublist _ | refine List.Sublist.cons_cons _ ?_ | refine List.Sublist.cons _ ?_)) (yld_field_z rfl F.fi24_2 F.ti3) rfl ?_
      refine any_take (listed' := [true, false, true, false, false, false, false, false, false, false, false, false].toArray) 2 rfl rfl rfl (by kernel_rfl) (by kernel_rfl) (by kernel_rfl) (by repeat (first | exact List.Sublist.refl _ | exact List.nil_sublist _ | refine List.Sublist.cons_cons _ ?_ | refine List.Sublist.cons _ ?_)) (yld_move rfl) rfl ?_
      refine any_take (listed' := [true, false, true, true, false, false, false, false, false, false, false, false].toArray) 3 rfl rfl rfl (by kernel_rfl) (by kernel_rfl) (by kernel_rfl) (by repeat (first | exact List.Sublist.refl _ | exact List.nil_sublist _ | refine List.Sublist.cons_cons _ ?_ | refine List.Sublist.cons _ ?_)) (yld_move rfl) rfl ?_
      refine any_take (listed' := [true, false, true, true, false, true, false, false, false, false, false, false].toArray) 5 rfl rfl rfl (by kernel_rfl) (by kernel_rfl) (by kernel_rfl) (by repeat (first | exact List.Sublist.refl _ | exact List.nil_sublist _ | refine List.Sublist.cons_cons _ ?_ | refine List.Sublist.cons _ ?_)) (yld_move rfl) rfl ?_
      refine any_take (listed' := [true, false, true, true, false, true, true, false, false, false, false, false].toArray) 6 rfl rfl rfl (by kernel_rfl) (by kernel_rfl) (by kernel_rfl) (by repeat (first | exact List.Sublist.refl _ | exact List.nil_sublist _ | refine List.Sublist.cons_cons _ ?_ | refine List.Sublist.cons _ ?_)) (yld_move rfl) rfl ?_
      refine any_two (l1 := [true, true, true, true, false, true, true, false, false, false, false, false].toArray) (l2 := [true, false, true, true, true, true, true, false, false, false, false, false].toArray) 1 4 (by kernel_rfl) rfl rfl rfl rfl ?_ ?_
      · skip
        refine lst_load rfl rfl F.one3 ?_
        refine lst_nil ?_
        refine any_next (by repeat (first | exact List.Sublist.refl _ | exact List.nil_sublist _ | refine List.Sublist.cons_cons _ ?_ | refine List.Sublist.cons _ ?_)) ?_
        refine any_one (listed' := [true, true, true, true, true, true, true, false, false, false, false, false].toArray) 4 (by kernel_rfl) rfl rfl ?_
        refine lst_call_pul (X := Nat × Nat) (vs := [_, _]) hb (fun y => hatO nA nums.length nc (tk + 1 + few + few + 1 + few) (y.1)) (fun y => y.1 < 18446744073709551616 ∧ y.2 < 2 ^ few) (fun y => .int .i64 (y.2 : Int)) rfl rfl F.ent63 (fun a w ha => (FaultsOf_c (C := ⟨Tryd.prog, B, w0, _, _⟩) rfl hB hN (tk := tk + 1 + few + few + 1) (st := s4) (few := few) (by omega) hs4 hfew ha).mono (fun e w' h => by obtain ⟨s', x, h1, h2, h3, h4⟩ := h; exact ⟨(s', x), ⟨h1, h2⟩, h3, h4⟩)) ?_
        rintro ⟨s5, f3⟩ ⟨hs5, hf3⟩
        dsimp only at hs5 hf3 ⊢
        have hlf3 : f3 < 64 := few64 hf3 hfew
        refine lst_nil ?_
        refine any_next (by repeat (first | exact List.Sublist.refl _ | exact List.nil_sublist _ | refine List.Sublist.cons_cons _ ?_ | refine List.Sublist.cons _ ?_)) ?_
        refine any_one (listed' := [true, true, true, true, true, true, true, true, false, false, false, false].toArray) 7 (by kernel_rfl) rfl rfl ?_
        refine lst_call_pul (X := Nat × Nat) (vs := [_, _]) hb (fun y => hatO nA nums.length nc (tk + 1 + few + few + 1 + few + few) (y.1)) (fun y => y.1 < 18446744073709551616 ∧ y.2 < 2 ^ few) (fun y => .int .i64 (y.2 : Int)) rfl rfl F.ent63 (fun a w ha => (FaultsOf_c (C := ⟨Tryd.prog, B, w0, _, _⟩) rfl hB hN (tk := tk + 1 + few + few + 1 + few) (st := s5) (few := few) (by omega) hs5 hfew ha).mono (fun e w' h => by obtain ⟨s', x, h1, h2, h3, h4⟩ := h; exact ⟨(s', x), ⟨h1, h2⟩, h3, h4⟩)) ?_
        rintro ⟨s6, f4⟩ ⟨hs6, hf4⟩
        dsimp only at hs6 hf4 ⊢
        have hlf4 : f4 < 64 := few64 hf4 hfew
        refine lst_nil ?_
        refine any_next (by repeat (first | exact List.Sublist.refl _ | exact List.nil_sublist _ | refine List.Sublist.cons_cons _ ?_ | refine List.Sublist.cons _ ?_)) ?_
        refine any_take (listed' := [true, true, true, true, true, true, true, true, true, false, false, false].toArray) 8 rfl rfl rfl (by kernel_rfl) (by kernel_rfl) (by kernel_rfl) (by repeat (first | exact List.Sublist.refl _ | exact List.nil_sublist _ | refine List.Sublist.cons_cons _ ?_ | refine List.Sublist.cons _ ?_)) (yld_int rfl rfl (fun w => bin_and w (i64_and f3 f4 (by omega) (by omega)))) rfl ?_
        have hl34 : f3 &&& f4 < 64 := and64 hlf3
        refine any_take (listed' := [true, true, true, true, true, true, true, true, true, true, false, false].toArray) 9 rfl rfl rfl (by kernel_rfl) (by kernel_rfl) (by kernel_rfl) (by repeat (first | exact List.Sublist.refl _ | exact List.nil_sublist _ | refine List.Sublist.cons_cons _ ?_ | refine List.Sublist.cons _ ?_)) (yld_int rfl rfl (fun w => bin_or w (i64_or k0 (f3 &&& f4) (by omega) (by omega)))) rfl ?_
        refine any_take (listed' := [true, true, true, true, true, true, true, true, true, true, true, false].toArray) 10 rfl rfl rfl (by kernel_rfl) (by kernel_rfl) (by kernel_rfl) (by repeat (first | exact List.Sublist.refl _ | exact List.nil_sublist _ | refine List.Sublist.cons_cons _ ?_ | refine List.Sublist.cons _ ?_)) (yld_field_z rfl F.fi24_2 F.ti3) rfl ?_
        refine any_one (listed' := [true, true, true, true, true, true, true, true, true, true, true, true].toArray) 11 (by kernel_rfl) rfl rfl ?_
        refine lst_store rfl rfl F.ti3 rfl ?_
        refine lst_nil ?_
        refine any_next (by repeat (first | exact List.Sublist.refl _ | exact List.nil_sublist _ | refine List.Sublist.cons_cons _ ?_ | refine List.Sublist.cons _ ?_)) ?_
        refine any_done rfl (by kernel_rfl) ?_
        exact ex_ghost (s6, k0 ||| f3 &&& f4) ⟨hs6, or64 hk0 hl34⟩ (by repeat (first | exact Sub.nil _ | refine Sub.cons rfl ?_)) (by repeat (first | exact Pck.nil _ | exact Pck.refl _ | (apply Pck.cons; focus ((repeat (first | exact Rem.here _ | apply Rem.there)); done)) | refine Pck.skip _ ?_))
      · skip
        refine lst_call_pul (X := Nat × Nat) (vs := [_, _]) hb (fun y => hatO nA nums.length nc (tk + 1 + few + few + 1 + few) (y.1)) (fun y => y.1 < 18446744073709551616 ∧ y.2 < 2 ^ few) (fun y => .int .i64 (y.2 : Int)) rfl rfl F.ent63 (fun a w ha => (FaultsOf_c (C := ⟨Tryd.prog, B, w0, _, _⟩) rfl hB hN (tk := tk + 1 + few + few + 1) (st := s4) (few := few) (by omega) hs4 hfew ha).mono (fun e w' h => by obtain ⟨s', x, h1, h2, h3, h4⟩ := h; exact ⟨(s', x), ⟨h1, h2⟩, h3, h4⟩)) ?_
        rintro ⟨s5, f3⟩ ⟨hs5, hf3⟩
        dsimp only at hs5 hf3 ⊢
        have hlf3 : f3 < 64 := few64 hf3 hfew
        refine lst_nil ?_
        refine any_next (by repeat (first | exact List.Sublist.refl _ | exact List.nil_sublist _ | refine List.Sublist.cons_cons _ ?_ | refine List.Sublist.cons _ ?_)) ?_
        refine any_two (l1 := [true, true, true, true, true, true, true, false, false, false, false, false].toArray) (l2 := [true, false, true, true, true, true, true, true, false, false, false, false].toArray) 1 7 (by kernel_rfl) rfl rfl rfl rfl ?_ ?_
        · skip
          refine lst_load rfl rfl F.one3 ?_
          refine lst_nil ?_
          refine any_next (by repeat (first | exact List.Sublist.refl _ | exact List.nil_sublist _ | refine List.Sublist.cons_cons _ ?_ | refine List.Sublist.cons _ ?_)) ?_
          refine any_one (listed' := [true, true, true, true, true, true, true, true, false, false, false, false].toArray) 7 (by kernel_rfl) rfl rfl ?_
          refine lst_call_pul (X := Nat × Nat) (vs := [_, _]) hb (fun y => hatO nA nums.length nc (tk + 1 + few + few + 1 + few + few) (y.1)) (fun y => y.1 < 18446744073709551616 ∧ y.2 < 2 ^ few) (fun y => .int .i64 (y.2 : Int)) rfl rfl F.ent63 (fun a w ha => (FaultsOf_c (C := ⟨Tryd.prog, B, w0, _, _⟩) rfl hB hN (tk := tk + 1 + few + few + 1 + few) (st := s5) (few := few) (by omega) hs5 hfew ha).mono (fun e w' h => by obtain ⟨s', x, h1, h2, h3, h4⟩ := h; exact ⟨(s', x), ⟨h1, h2⟩, h3, h4⟩)) ?_
          rintro ⟨s6, f4⟩ ⟨hs6, hf4⟩
          dsimp only at hs6 hf4 ⊢
          have hlf4 : f4 < 64 := few64 hf4 hfew
          refine lst_nil ?_
          refine any_next (by repeat (first | exact List.Sublist.refl _ | exact List.nil_sublist _ | refine List.Sublist.cons_cons _ ?_ | refine List.Sublist.cons _ ?_)) ?_
          refine any_take (listed' := [true, true, true, true, true, true, true, true, true, false, false, false].toArray) 8 rfl rfl rfl (by kernel_rfl) (by kernel_rfl) (by kernel_rfl) (by repeat (first | exact List.Sublist.refl _ | exact List.nil_sublist _ | refine List.Sublist.cons_cons _ ?_ | refine List.Sublist.cons _ ?_)) (yld_int rfl rfl (fun w => bin_and w (i64_and f3 f4 (by omega) (by omega)))) rfl ?_
          have hl34 : f3 &&& f4 < 64 := and64 hlf3
          refine any_take (listed' := [true, true, true, true, true, true, true, true, true, true, false, false].toArray) 9 rfl rfl rfl (by kernel_rfl) (by kernel_rfl) (by kernel_rfl) (by repeat (first | exact List.Sublist.refl _ | exact List.nil_sublist _ | refine List.Sublist.cons_cons _ ?_ | refine List.Sublist.cons _ ?_)) (yld_int rfl rfl (fun w => bin_or w (i64_or k0 (f3 &&& f4) (by omega) (by omega)))) rfl ?_
          refine any_take (listed' := [true, true, true, true, true, true, true, true, true, true, true, false].toArray) 10 rfl rfl rfl (by kernel_rfl) (by kernel_rfl) (by kernel_rfl) (by repeat (first | exact List.Sublist.refl _ | exact List.nil_sublist _ | refine List.Sublist.cons_cons _ ?_ | refine List.Sublist.cons _ ?_)) (yld_field_z rfl F.fi24_2 F.ti3) rfl ?_
          refine any_one (listed' := [true, true, true, true, true, true, true, true, true, true, true, true].toArray) 11 (by kernel_rfl) rfl rfl ?_
          refine lst_store rfl rfl F.ti3 rfl ?_
          refine lst_nil ?_
          refine any_next (by repeat (first | exact List.Sublist.refl _ | exact List.nil_sublist _ | refine List.Sublist.cons_cons _ ?_ | refine List.Sublist.cons _ ?_)) ?_
          refine any_done rfl (by kernel_rfl) ?_
          exact ex_ghost (s6, k0 ||| f3 &&& f4) ⟨hs6, or64 hk0 hl34⟩ (by repeat (first | exact Sub.nil _ | refine Sub.cons rfl ?_)) (by repeat (first | exact Pck.nil _ | exact Pck.refl _ | (apply Pck.cons; focus ((repeat (first | exact Rem.here _ | apply Rem.there)); done)) | refine Pck.skip _ ?_))
        · skip
          refine lst_call_pul (X := Nat × Nat) (vs := [_, _]) hb (fun y => hatO nA nums.length nc (tk + 1 + few + few + 1 + few + few) (y.1)) (fun y => y.1 < 18446744073709551616 ∧ y.2 < 2 ^ few) (fun y => .int .i64 (y.2 : Int)) rfl rfl F.ent63 (fun a w ha => (FaultsOf_c (C := ⟨Tryd.prog, B, w0, _, _⟩) rfl hB hN (tk := tk + 1 + few + few + 1 + few) (st := s5) (few := few) (by omega) hs5 hfew ha).mono (fun e w' h => by obtain ⟨s', x, h1, h2, h3, h4⟩ := h; exact ⟨(s', x), ⟨h1, h2⟩, h3, h4⟩)) ?_
          rintro ⟨s6, f4⟩ ⟨hs6, hf4⟩
          dsimp only at hs6 hf4 ⊢
          have hlf4 : f4 < 64 := few64 hf4 hfew
          refine lst_nil ?_
          refine any_next (by repeat (first | exact List.Sublist.refl _ | exact List.nil_sublist _ | refine List.Sublist.cons_cons _ ?_ | refine List.Sublist.cons _ ?_)) ?_
          refine any_take (listed' := [true, false, true, true, true, true, true, true, true, false, false, false].toArray) 8 rfl rfl rfl (by kernel_rfl) (by kernel_rfl) (by kernel_rfl) (by repeat (first | exact List.Sublist.refl _ | exact List.nil_sublist _ | refine List.Sublist.cons_cons _ ?_ | refine List.Sublist.cons _ ?_)) (yld_int rfl rfl (fun w => bin_and w (i64_and f3 f4 (by omega) (by omega)))) rfl ?_
          refine any_one (listed' := [true, true, true, true, true, true, true, true, true, false, false, false].toArray) 1 (by kernel_rfl) rfl rfl ?_
          refine lst_load rfl rfl F.one3 ?_
          refine lst_nil ?_
          refine any_next (by repeat (first | exact List.Sublist.refl _ | exact List.nil_sublist _ | refine List.Sublist.cons_cons _ ?_ | refine List.Sublist.cons _ ?_)) ?_
          have hl34 : f3 &&& f4 < 64 := and64 hlf3
          refine any_take (listed' := [true, true, true, true, true, true, true, true, true, true, false, false].toArray) 9 rfl rfl rfl (by kernel_rfl) (by kernel_rfl) (by kernel_rfl) (by repeat (first | exact List.Sublist.refl _ | exact List.nil_sublist _ | refine List.Sublist.cons_cons _ ?_ | refine List.Sublist.cons _ ?_)) (yld_int rfl rfl (fun w => bin_or w (i64_or k0 (f3 &&& f4) (by omega) (by omega)))) rfl ?_
          refine any_take (listed' := [true, true, true, true, true, true, true, true, true, true, true, false].toArray) 10 rfl rfl rfl (by kernel_rfl) (by kernel_rfl) (by kernel_rfl) (by repeat (first | exact List.Sublist.refl _ | exact List.nil_sublist _ | refine List.Sublist.cons_cons _ ?_ | refine List.Sublist.cons _ ?_)) (yld_field_z rfl F.fi24_2 F.ti3) rfl ?_
          refine any_one (listed' := [true, true, true, true, true, true, true, true, true, true, true, true].toArray) 11 (by kernel_rfl) rfl rfl ?_
          refine lst_store rfl rfl F.ti3 rfl ?_
          refine lst_nil ?_
          refine any_next (by repeat (first | exact List.Sublist.refl _ | exact List.nil_sublist _ | refine List.Sublist.cons_cons _ ?_ | refine List.Sublist.cons _ ?_)) ?_
          refine any_done rfl (by kernel_rfl) ?_
          exact ex_ghost (s6, k0 ||| f3 &&& f4) ⟨hs6, or64 hk0 hl34⟩ (by repeat (first | exact Sub.nil _ | refine Sub.cons rfl ?_)) (by repeat (first | exact Pck.nil _ | exact Pck.refl _ | (apply Pck.cons; focus ((repeat (first | exact Rem.here _ | apply Rem.there)); done)) | refine Pck.skip _ ?_))
    · skip
      rintro ⟨s6, k1⟩ ⟨hs6, hk1⟩
      dsimp only at hs6 hk1 ⊢
      refine ex_then ?_
      refine cod_seq ?_
      refine cod_seq ?_
      refine cod_region ?_
      refine lst_move rfl rfl ?_
      refine lst_call_pul (X := Nat × Bool) (vs := [_, _]) hb (fun y => hatO nA nums.length nc (tk + 1 + few + few + 1 + few + few + 1) (y.1)) (fun y => y.1 < 18446744073709551616) (fun y => .bool y.2) rfl rfl F.ent93 (fun a w ha => (Seldom_c (C := ⟨Tryd.prog, B, w0, _, _⟩) rfl hB hN (tk := tk + 1 + few + few + 1 + few + few) (st := s6) (n := 3) (by omega) hs6 (by omega) (by omega) ha).mono (fun e w' h => by obtain ⟨s', b, h1, h2, h3⟩ := h; exact ⟨(s', b), h1, h2, h3⟩)) ?_
      rintro ⟨s7, bl1⟩ hs7
      dsimp only at hs7 ⊢
      refine lst_not rfl rfl ?_
      refine lst_nil ?_
      refine ex_then ?_
      refine cod_cond_bool rfl (fun hc0 => ?_) (fun hc0 => ?_)
      · skip
        refine cod_region ?_
        refine lst_move rfl rfl ?_
        refine lst_move rfl rfl ?_
        refine lst_int rfl rfl rfl (fun w => bin_sub w (wrap_i64' ((few : Int) - 1) (by omega) (by omega))) ?_
        refine lst_call_pul (X := Nat × Nat) (vs := [_, _]) hb (fun y => hatO nA nums.length nc (tk + 1 + few + few + 1 + few + few + 1 + 1) (y.1)) (fun y => y.1 < 18446744073709551616 ∧ y.2 ≤ ((few : Int) - 1 : Int).toNat) (fun y => .int .i64 (y.2 : Int)) rfl rfl F.ent25 (fun a w ha => (To_c (C := ⟨Tryd.prog, B, w0, _, _⟩) rfl hB hN (tk := tk + 1 + few + few + 1 + few + few + 1) (st := s7) (n := (few : Int) - 1) (by omega) hs7 (by omega) ha).mono (fun e w' h => by obtain ⟨s', x, h1, h2, h3, h4⟩ := h; exact ⟨(s', x), ⟨h1, h2⟩, h3, h4⟩)) ?_
        rintro ⟨s8, t2⟩ ⟨hs8, ht2⟩
        dsimp only at hs8 ht2 ⊢
        have hlt2 : 2 ^ t2 < 64 := pow64 ht2 hf1 hfew
        refine lst_shl rfl rfl rfl (by omega) (shl_i64 (by omega)) ?_
        refine lst_field_z rfl rfl F.fi24_0 F.ti3 ?_
        refine lst_store rfl rfl F.ti3 rfl ?_
        refine lst_nil ?_
        refine ex_then ?_
        refine cod_seq ?_
        refine cod_seq ?_
        refine cod_region ?_
        refine lst_move rfl rfl ?_
        refine lst_call_pul (X := Nat × Bool) (vs := [_, _]) hb (fun y => hatO nA nums.length nc (tk + 1 + few + few + 1 + few + few + 1 + 1 + 1) (y.1)) (fun y => y.1 < 18446744073709551616) (fun y => .bool y.2) rfl rfl F.ent93 (fun a w ha => (Seldom_c (C := ⟨Tryd.prog, B, w0, _, _⟩) rfl hB hN (tk := tk + 1 + few + few + 1 + few + few + 1 + 1) (st := s8) (n := 3) (by omega) hs8 (by omega) (by omega) ha).mono (fun e w' h => by obtain ⟨s', b, h1, h2, h3⟩ := h; exact ⟨(s', b), h1, h2, h3⟩)) ?_
        rintro ⟨s9, bl2⟩ hs9
        dsimp only at hs9 ⊢
        refine lst_nil ?_
        refine ex_then ?_
        refine cod_cond_bool rfl (fun hc1 => ?_) (fun hc1 => ?_)
        · skip
          refine cod_ghost (G := Nat × Nat) (fun g => g.1 < 18446744073709551616 ∧ g.2 < 64 ∧ (2 ^ t2) &&& g.2 = 0) (fun g => [(0, .pointer (some ⟨hb, 0, none⟩)), (1, .int .i64 (few : Int)), (4, .pointer (some ⟨b4, 0, none⟩)), (5, .pointer (some ⟨b5, 0, none⟩))]) (fun g => .blk hb (hatO nA nums.length nc (tk + 1 + few + few + 1 + few + few + 1 + 1 + 1 + 1) (g.1)) :: .blk b5 (.cells [.int .i64 ((2 ^ t2 : Nat) : Int), .int .i64 (g.2 : Int), .int .i64 (k1 : Int), .int .i64 (l0 : Int), .int .i64 (c0 : Int)].toArray 24 (0, 0)) :: .blk b4 (.cells [.int .i64 0, .int .i64 0, .int .i64 0, .int .i64 0, .int .i64 0].toArray 24 (0, 0)) :: T) ?_ ?_
          · skip
            refine any_begin [.b b5, .b hb] F.follows 10 rfl [false, false, false, false, false, false, false, false, false, false] rfl ?_
            refine any_take (listed' := [true, false, false, false, false, false, false, false, false, false].toArray) 0 rfl rfl rfl (by kernel_rfl) (by kernel_rfl) (by kernel_rfl) (by repeat (first | exact List.Sublist.refl _ | exact List.nil_sublist _ | refine List.Sublist.cons_cons _ ?_ | refine List.Sublist.cons _ ?_)) (yld_move rfl) rfl ?_
            refine any_take (listed' := [true, true, false, false, false, false, false, false, false, false].toArray) 1 rfl rfl rfl (by kernel_rfl) (by kernel_rfl) (by kernel_rfl) (by repeat (first | exact List.Sublist.refl _ | exact List.nil_sublist _ | refine List.Sublist.cons_cons _ ?_ | refine List.Sublist.cons _ ?_)) (yld_move rfl) rfl ?_
            refine any_take (listed' := [true, true, true, false, false, false, false, false, false, false].toArray) 2 rfl rfl rfl (by kernel_rfl) (by kernel_rfl) (by kernel_rfl) (by repeat (first | exact List.Sublist.refl _ | exact List.nil_sublist _ | refine List.Sublist.cons_cons _ ?_ | refine List.Sublist.cons _ ?_)) (yld_int rfl rfl (fun w => bin_sub w (wrap_i64' ((few : Int) - 1) (by omega) (by omega)))) rfl ?_
            refine any_take (listed' := [true, true, true, false, false, true, false, false, false, false].toArray) 5 rfl rfl rfl (by kernel_rfl) (by kernel_rfl) (by kernel_rfl) (by repeat (first | exact List.Sublist.refl _ | exact List.nil_sublist _ | refine List.Sublist.cons_cons _ ?_ | refine List.Sublist.cons _ ?_)) (yld_field_z rfl F.fi24_0 F.ti3) rfl ?_
            refine any_two (l1 := [true, true, true, true, false, true, false, false, false, false].toArray) (l2 := [true, true, true, false, false, true, true, false, false, false].toArray) 3 6 (by kernel_rfl) rfl rfl rfl rfl ?_ ?_
            · skip
              refine lst_call_pul (X := Nat × Nat) (vs := [_, _]) hb (fun y => hatO nA nums.length nc (tk + 1 + few + few + 1 + few + few + 1 + 1 + 1 + 1) (y.1)) (fun y => y.1 < 18446744073709551616 ∧ y.2 ≤ ((few : Int) - 1 : Int).toNat) (fun y => .int .i64 (y.2 : Int)) rfl rfl F.ent25 (fun a w ha => (To_c (C := ⟨Tryd.prog, B, w0, _, _⟩) rfl hB hN (tk := tk + 1 + few + few + 1 + few + few + 1 + 1 + 1) (st := s9) (n := (few : Int) - 1) (by omega) hs9 (by omega) ha).mono (fun e w' h => by obtain ⟨s', x, h1, h2, h3, h4⟩ := h; exact ⟨(s', x), ⟨h1, h2⟩, h3, h4⟩)) ?_
              rintro ⟨s10, t3⟩ ⟨hs10, ht3⟩
              dsimp only at hs10 ht3 ⊢
              have hlt3 : 2 ^ t3 < 64 := pow64 ht3 hf1 hfew
              refine lst_nil ?_
              refine any_next (by repeat (first | exact List.Sublist.refl _ | exact List.nil_sublist _ | refine List.Sublist.cons_cons _ ?_ | refine List.Sublist.cons _ ?_)) ?_
              refine any_take (listed' := [true, true, true, true, true, true, false, false, false, false].toArray) 4 rfl rfl rfl (by kernel_rfl) (by kernel_rfl) (by kernel_rfl) (by repeat (first | exact List.Sublist.refl _ | exact List.nil_sublist _ | refine List.Sublist.cons_cons _ ?_ | refine List.Sublist.cons _ ?_)) (yld_shl rfl rfl (by omega) (shl_i64 (by omega))) rfl ?_
              refine any_one (listed' := [true, true, true, true, true, true, true, false, false, false].toArray) 6 (by kernel_rfl) rfl rfl ?_
              refine lst_load rfl rfl F.one3 ?_
              refine lst_nil ?_
              refine any_next (by repeat (first | exact List.Sublist.refl _ | exact List.nil_sublist _ | refine List.Sublist.cons_cons _ ?_ | refine List.Sublist.cons _ ?_)) ?_
              refine any_take (listed' := [true, true, true, true, true, true, true, true, false, false].toArray) 7 rfl rfl rfl (by kernel_rfl) (by kernel_rfl) (by kernel_rfl) (by repeat (first | exact List.Sublist.refl _ | exact List.nil_sublist _ | refine List.Sublist.cons_cons _ ?_ | refine List.Sublist.cons _ ?_)) (yld_int rfl rfl (fun w => bin_andNot w (i64_andNot (2 ^ t3) (2 ^ t2) (by omega) (by omega)))) rfl ?_
              refine any_take (listed' := [true, true, true, true, true, true, true, true, true, false].toArray) 8 rfl rfl rfl (by kernel_rfl) (by kernel_rfl) (by kernel_rfl) (by repeat (first | exact List.Sublist.refl _ | exact List.nil_sublist _ | refine List.Sublist.cons_cons _ ?_ | refine List.Sublist.cons _ ?_)) (yld_field_z rfl F.fi24_1 F.ti3) rfl ?_
              refine any_one (listed' := [true, true, true, true, true, true, true, true, true, true].toArray) 9 (by kernel_rfl) rfl rfl ?_
              refine lst_store rfl rfl F.ti3 rfl ?_
              refine lst_nil ?_
              refine any_next (by repeat (first | exact List.Sublist.refl _ | exact List.nil_sublist _ | refine List.Sublist.cons_cons _ ?_ | refine List.Sublist.cons _ ?_)) ?_
              refine any_done rfl (by kernel_rfl) ?_
              exact ex_ghost (s10, nn (2 ^ t3) (2 ^ t2)) ⟨hs10, nn64 hlt3, nn_apart _ _⟩ (by repeat (first | exact Sub.nil _ | refine Sub.cons rfl ?_)) (by repeat (first | exact Pck.nil _ | exact Pck.refl _ | (apply Pck.cons; focus ((repeat (first | exact Rem.here _ | apply Rem.there)); done)) | refine Pck.skip _ ?_))
            · skip
              refine lst_load rfl rfl F.one3 ?_
              refine lst_nil ?_
              refine any_next (by repeat (first | exact List.Sublist.refl _ | exact List.nil_sublist _ | refine List.Sublist.cons_cons _ ?_ | refine List.Sublist.cons _ ?_)) ?_
              refine any_one (listed' := [true, true, true, true, false, true, true, false, false, false].toArray) 3 (by kernel_rfl) rfl rfl ?_
              refine lst_call_pul (X := Nat × Nat) (vs := [_, _]) hb (fun y => hatO nA nums.length nc (tk + 1 + few + few + 1 + few + few + 1 + 1 + 1 + 1) (y.1)) (fun y => y.1 < 18446744073709551616 ∧ y.2 ≤ ((few : Int) - 1 : Int).toNat) (fun y => .int .i64 (y.2 : Int)) rfl rfl F.ent25 (fun a w ha => (To_c (C := ⟨Tryd.prog, B, w0, _, _⟩) rfl hB hN (tk := tk + 1 + few + few + 1 + few + few + 1 + 1 + 1) (st := s9) (n := (few : Int) - 1) (by omega) hs9 (by omega) ha).mono (fun e w' h => by obtain ⟨s', x, h1, h2, h3, h4⟩ := h; exact ⟨(s', x), ⟨h1, h2⟩, h3, h4⟩)) ?_
              rintro ⟨s10, t3⟩ ⟨hs10, ht3⟩
              dsimp only at hs10 ht3 ⊢
              have hlt3 : 2 ^ t3 < 64 := pow64 ht3 hf1 hfew
              refine lst_nil ?_
              refine any_next (by repeat (first | exact List.Sublist.refl _ | exact List.nil_sublist _ | refine List.Sublist.cons_cons _ ?_ | refine List.Sublist.cons _ ?_)) ?_
              refine any_take (listed' := [true, true, true, true, true, true, true, false, false, false].toArray) 4 rfl rfl rfl (by kernel_rfl) (by kernel_rfl) (by kernel_rfl) (by repeat (first | exact List.Sublist.refl _ | exact List.nil_sublist _ | refine List.Sublist.cons_cons _ ?_ | refine List.Sublist.cons _ ?_)) (yld_shl rfl rfl (by omega) (shl_i64 (by omega))) rfl ?_
              refine any_take (listed' := [true, true, true, true, true, true, true, true, false, false].toArray) 7 rfl rfl rfl (by kernel_rfl) (by kernel_rfl) (by kernel_rfl) (by repeat (first | exact List.Sublist.refl _ | exact List.nil_sublist _ | refine List.Sublist.cons_cons _ ?_ | refine List.Sublist.cons _ ?_)) (yld_int rfl rfl (fun w => bin_andNot w (i64_andNot (2 ^ t3) (2 ^ t2) (by omega) (by omega)))) rfl ?_
              refine any_take (listed' := [true, true, true, true, true, true, true, true, true, false].toArray) 8 rfl rfl rfl (by kernel_rfl) (by kernel_rfl) (by kernel_rfl) (by repeat (first | exact List.Sublist.refl _ | exact List.nil_sublist _ | refine List.Sublist.cons_cons _ ?_ | refine List.Sublist.cons _ ?_)) (yld_field_z rfl F.fi24_1 F.ti3) rfl ?_
              refine any_one (listed' := [true, true, true, true, true, true, true, true, true, true].toArray) 9 (by kernel_rfl) rfl rfl ?_
              refine lst_store rfl rfl F.ti3 rfl ?_
              refine lst_nil ?_
              refine any_next (by repeat (first | exact List.Sublist.refl _ | exact List.nil_sublist _ | refine List.Sublist.cons_cons _ ?_ | refine List.Sublist.cons _ ?_)) ?_
              refine any_done rfl (by kernel_rfl) ?_
              exact ex_ghost (s10, nn (2 ^ t3) (2 ^ t2)) ⟨hs10, nn64 hlt3, nn_apart _ _⟩ (by repeat (first | exact Sub.nil _ | refine Sub.cons rfl ?_)) (by repeat (first | exact Pck.nil _ | exact Pck.refl _ | (apply Pck.cons; focus ((repeat (first | exact Rem.here _ | apply Rem.there)); done)) | refine Pck.skip _ ?_))
          · skip
            rintro ⟨s10, q1⟩ ⟨hs10, hq1, hq2⟩
            dsimp only at hs10 hq1 hq2 ⊢
            refine ex_then ?_
            refine cod_seq ?_
            refine cod_region ?_
            refine lst_loadN rfl rfl F.agg24 F.ti24 ?_
            refine lst_store rfl rfl F.ti24 rfl ?_
            refine lst_nil ?_
            refine ex_then ?_
            refine cod_ret ?_
            exact ex_ret rfl (fun a w ha => by exact res_cellN (ha := ha) rfl rfl F.agg24 F.ti24 rfl) (fun _ _ ha' => ⟨tk + 1 + few + few + 1 + few + few + 1 + 1 + 1 + 1, s10, ⟨2 ^ t2, q1, k1, l0, c0⟩, by omega, hs10, ⟨hlt2, hq1, hk1, hl0, hq2, ⟨hc0a, hc0b⟩⟩, rfl, ha.back (ha'.pck (by repeat (first | exact Pck.nil _ | exact Pck.refl _ | (apply Pck.cons; focus ((repeat (first | exact Rem.here _ | apply Rem.there)); done)) | refine Pck.skip _ ?_)))⟩)
        · skip
          refine cod_skip ?_
          refine ex_then ?_
          refine cod_seq ?_
          refine cod_region ?_
          refine lst_loadN rfl rfl F.agg24 F.ti24 ?_
          refine lst_store rfl rfl F.ti24 rfl ?_
          refine lst_nil ?_
          refine ex_then ?_
          refine cod_ret ?_
          exact ex_ret rfl (fun a w ha => by exact res_cellN (ha := ha) rfl rfl F.agg24 F.ti24 rfl) (fun _ _ ha' => ⟨tk + 1 + few + few + 1 + few + few + 1 + 1 + 1, s9, ⟨2 ^ t2, 0, k1, l0, c0⟩, by omega, hs9, ⟨hlt2, (show (0 : Nat) < 64 by omega), hk1, hl0, Nat.and_zero _, ⟨hc0a, hc0b⟩⟩, rfl, ha.back (ha'.pck (by repeat (first | exact Pck.nil _ | exact Pck.refl _ | (apply Pck.cons; focus ((repeat (first | exact Rem.here _ | apply Rem.there)); done)) | refine Pck.skip _ ?_)))⟩)
      · skip
        refine cod_skip ?_
        refine ex_then ?_
        refine cod_seq ?_
        refine cod_seq ?_
        refine cod_region ?_
        refine lst_move rfl rfl ?_
        refine lst_call_pul (X := Nat × Bool) (vs := [_, _]) hb (fun y => hatO nA nums.length nc (tk + 1 + few + few + 1 + few + few + 1 + 1) (y.1)) (fun y => y.1 < 18446744073709551616) (fun y => .bool y.2) rfl rfl F.ent93 (fun a w ha => (Seldom_c (C := ⟨Tryd.prog, B, w0, _, _⟩) rfl hB hN (tk := tk + 1 + few + few + 1 + few + few + 1) (st := s7) (n := 3) (by omega) hs7 (by omega) (by omega) ha).mono (fun e w' h => by obtain ⟨s', b, h1, h2, h3⟩ := h; exact ⟨(s', b), h1, h2, h3⟩)) ?_
        rintro ⟨s9, bl2⟩ hs9
        dsimp only at hs9 ⊢
        refine lst_nil ?_
        refine ex_then ?_
        refine cod_cond_bool rfl (fun hc1 => ?_) (fun hc1 => ?_)
        · skip
          refine cod_ghost (G := Nat × Nat) (fun g => g.1 < 18446744073709551616 ∧ g.2 < 64 ∧ 0 &&& g.2 = 0) (fun g => [(0, .pointer (some ⟨hb, 0, none⟩)), (1, .int .i64 (few : Int)), (4, .pointer (some ⟨b4, 0, none⟩)), (5, .pointer (some ⟨b5, 0, none⟩))]) (fun g => .blk hb (hatO nA nums.length nc (tk + 1 + few + few + 1 + few + few + 1 + 1 + 1) (g.1)) :: .blk b5 (.cells [.int .i64 ((0 : Nat) : Int), .int .i64 (g.2 : Int), .int .i64 (k1 : Int), .int .i64 (l0 : Int), .int .i64 (c0 : Int)].toArray 24 (0, 0)) :: .blk b4 (.cells [.int .i64 0, .int .i64 0, .int .i64 0, .int .i64 0, .int .i64 0].toArray 24 (0, 0)) :: T) ?_ ?_
          · skip
            refine any_begin [.b b5, .b hb] F.follows 10 rfl [false, false, false, false, false, false, false, false, false, false] rfl ?_
            refine any_take (listed' := [true, false, false, false, false, false, false, false, false, false].toArray) 0 rfl rfl rfl (by kernel_rfl) (by kernel_rfl) (by kernel_rfl) (by repeat (first | exact List.Sublist.refl _ | exact List.nil_sublist _ | refine List.Sublist.cons_cons _ ?_ | refine List.Sublist.cons _ ?_)) (yld_move rfl) rfl ?_
            refine any_take (listed' := [true, true, false, false, false, false, false, false, false, false].toArray) 1 rfl rfl rfl (by kernel_rfl) (by kernel_rfl) (by kernel_rfl) (by repeat (first | exact List.Sublist.refl _ | exact List.nil_sublist _ | refine List.Sublist.cons_cons _ ?_ | refine List.Sublist.cons _ ?_)) (yld_move rfl) rfl ?_
            refine any_take (listed' := [true, true, true, false, false, false, false, false, false, false].toArray) 2 rfl rfl rfl (by kernel_rfl) (by kernel_rfl) (by kernel_rfl) (by repeat (first | exact List.Sublist.refl _ | exact List.nil_sublist _ | refine List.Sublist.cons_cons _ ?_ | refine List.Sublist.cons _ ?_)) (yld_int rfl rfl (fun w => bin_sub w (wrap_i64' ((few : Int) - 1) (by omega) (by omega)))) rfl ?_
            refine any_take (listed' := [true, true, true, false, false, true, false, false, false, false].toArray) 5 rfl rfl rfl (by kernel_rfl) (by kernel_rfl) (by kernel_rfl) (by repeat (first | exact List.Sublist.refl _ | exact List.nil_sublist _ | refine List.Sublist.cons_cons _ ?_ | refine List.Sublist.cons _ ?_)) (yld_field_z rfl F.fi24_0 F.ti3) rfl ?_
            refine any_two (l1 := [true, true, true, true, false, true, false, false, false, false].toArray) (l2 := [true, true, true, false, false, true, true, false, false, false].toArray) 3 6 (by kernel_rfl) rfl rfl rfl rfl ?_ ?_
            · skip
              refine lst_call_pul (X := Nat × Nat) (vs := [_, _]) hb (fun y => hatO nA nums.length nc (tk + 1 + few + few + 1 + few + few + 1 + 1 + 1) (y.1)) (fun y => y.1 < 18446744073709551616 ∧ y.2 ≤ ((few : Int) - 1 : Int).toNat) (fun y => .int .i64 (y.2 : Int)) rfl rfl F.ent25 (fun a w ha => (To_c (C := ⟨Tryd.prog, B, w0, _, _⟩) rfl hB hN (tk := tk + 1 + few + few + 1 + few + few + 1 + 1) (st := s9) (n := (few : Int) - 1) (by omega) hs9 (by omega) ha).mono (fun e w' h => by obtain ⟨s', x, h1, h2, h3, h4⟩ := h; exact ⟨(s', x), ⟨h1, h2⟩, h3, h4⟩)) ?_
              rintro ⟨s10, t3⟩ ⟨hs10, ht3⟩
              dsimp only at hs10 ht3 ⊢
              have hlt3 : 2 ^ t3 < 64 := pow64 ht3 hf1 hfew
              refine lst_nil ?_
              refine any_next (by repeat (first | exact List.Sublist.refl _ | exact List.nil_sublist _ | refine List.Sublist.cons_cons _ ?_ | refine List.Sublist.cons _ ?_)) ?_
              refine any_take (listed' := [true, true, true, true, true, true, false, false, false, false].toArray) 4 rfl rfl rfl (by kernel_rfl) (by kernel_rfl) (by kernel_rfl) (by repeat (first | exact List.Sublist.refl _ | exact List.nil_sublist _ | refine List.Sublist.cons_cons _ ?_ | refine List.Sublist.cons _ ?_)) (yld_shl rfl rfl (by omega) (shl_i64 (by omega))) rfl ?_
              refine any_one (listed' := [true, true, true, true, true, true, true, false, false, false].toArray) 6 (by kernel_rfl) rfl rfl ?_
              refine lst_load rfl rfl F.one3 ?_
              refine lst_nil ?_
              refine any_next (by repeat (first | exact List.Sublist.refl _ | exact List.nil_sublist _ | refine List.Sublist.cons_cons _ ?_ | refine List.Sublist.cons _ ?_)) ?_
              refine any_take (listed' := [true, true, true, true, true, true, true, true, false, false].toArray) 7 rfl rfl rfl (by kernel_rfl) (by kernel_rfl) (by kernel_rfl) (by repeat (first | exact List.Sublist.refl _ | exact List.nil_sublist _ | refine List.Sublist.cons_cons _ ?_ | refine List.Sublist.cons _ ?_)) (yld_int rfl rfl (fun w => bin_andNot w (i64_andNot (2 ^ t3) 0 (by omega) (by omega)))) rfl ?_
              refine any_take (listed' := [true, true, true, true, true, true, true, true, true, false].toArray) 8 rfl rfl rfl (by kernel_rfl) (by kernel_rfl) (by kernel_rfl) (by repeat (first | exact List.Sublist.refl _ | exact List.nil_sublist _ | refine List.Sublist.cons_cons _ ?_ | refine List.Sublist.cons _ ?_)) (yld_field_z rfl F.fi24_1 F.ti3) rfl ?_
              refine any_one (listed' := [true, true, true, true, true, true, true, true, true, true].toArray) 9 (by kernel_rfl) rfl rfl ?_
              refine lst_store rfl rfl F.ti3 rfl ?_
              refine lst_nil ?_
              refine any_next (by repeat (first | exact List.Sublist.refl _ | exact List.nil_sublist _ | refine List.Sublist.cons_cons _ ?_ | refine List.Sublist.cons _ ?_)) ?_
              refine any_done rfl (by kernel_rfl) ?_
              exact ex_ghost (s10, nn (2 ^ t3) 0) ⟨hs10, nn64 hlt3, nn_apart _ _⟩ (by repeat (first | exact Sub.nil _ | refine Sub.cons rfl ?_)) (by repeat (first | exact Pck.nil _ | exact Pck.refl _ | (apply Pck.cons; focus ((repeat (first | exact Rem.here _ | apply Rem.there)); done)) | refine Pck.skip _ ?_))
            · skip
              refine lst_load rfl rfl F.one3 ?_
              refine lst_nil ?_
              refine any_next (by repeat (first | exact List.Sublist.refl _ | exact List.nil_sublist _ | refine List.Sublist.cons_cons _ ?_ | refine List.Sublist.cons _ ?_)) ?_
              refine any_one (listed' := [true, true, true, true, false, true, true, false, false, false].toArray) 3 (by kernel_rfl) rfl rfl ?_
              refine lst_call_pul (X := Nat × Nat) (vs := [_, _]) hb (fun y => hatO nA nums.length nc (tk + 1 + few + few + 1 + few + few + 1 + 1 + 1) (y.1)) (fun y => y.1 < 18446744073709551616 ∧ y.2 ≤ ((few : Int) - 1 : Int).toNat) (fun y => .int .i64 (y.2 : Int)) rfl rfl F.ent25 (fun a w ha => (To_c (C := ⟨Tryd.prog, B, w0, _, _⟩) rfl hB hN (tk := tk + 1 + few + few + 1 + few + few + 1 + 1) (st := s9) (n := (few : Int) - 1) (by omega) hs9 (by omega) ha).mono (fun e w' h => by obtain ⟨s', x, h1, h2, h3, h4⟩ := h; exact ⟨(s', x), ⟨h1, h2⟩, h3, h4⟩)) ?_
              rintro ⟨s10, t3⟩ ⟨hs10, ht3⟩
              dsimp only at hs10 ht3 ⊢
              have hlt3 : 2 ^ t3 < 64 := pow64 ht3 hf1 hfew
              refine lst_nil ?_
              refine any_next (by repeat (first | exact List.Sublist.refl _ | exact List.nil_sublist _ | refine List.Sublist.cons_cons _ ?_ | refine List.Sublist.cons _ ?_)) ?_
              refine any_take (listed' := [true, true, true, true, true, true, true, false, false, false].toArray) 4 rfl rfl rfl (by kernel_rfl) (by kernel_rfl) (by kernel_rfl) (by repeat (first | exact List.Sublist.refl _ | exact List.nil_sublist _ | refine List.Sublist.cons_cons _ ?_ | refine List.Sublist.cons _ ?_)) (yld_shl rfl rfl (by omega) (shl_i64 (by omega))) rfl ?_
              refine any_take (listed' := [true, true, true, true, true, true, true, true, false, false].toArray) 7 rfl rfl rfl (by kernel_rfl) (by kernel_rfl) (by kernel_rfl) (by repeat (first | exact List.Sublist.refl _ | exact List.nil_sublist _ | refine List.Sublist.cons_cons _ ?_ | refine List.Sublist.cons _ ?_)) (yld_int rfl rfl (fun w => bin_andNot w (i64_andNot (2 ^ t3) 0 (by omega) (by omega)))) rfl ?_
              refine any_take (listed' := [true, true, true, true, true, true, true, true, true, false].toArray) 8 rfl rfl rfl (by kernel_rfl) (by kernel_rfl) (by kernel_rfl) (by repeat (first | exact List.Sublist.refl _ | exact List.nil_sublist _ | refine List.Sublist.cons_cons _ ?_ | refine List.Sublist.cons _ ?_)) (yld_field_z rfl F.fi24_1 F.ti3) rfl ?_
              refine any_one (listed' := [true, true, true, true, true, true, true, true, true, true].toArray) 9 (by kernel_rfl) rfl rfl ?_
              refine lst_store rfl rfl F.ti3 rfl ?_
              refine lst_nil ?_
              refine any_next (by repeat (first | exact List.Sublist.refl _ | exact List.nil_sublist _ | refine List.Sublist.cons_cons _ ?_ | refine List.Sublist.cons _ ?_)) ?_
              refine any_done rfl (by kernel_rfl) ?_
              exact ex_ghost (s10, nn (2 ^ t3) 0) ⟨hs10, nn64 hlt3, nn_apart _ _⟩ (by repeat (first | exact Sub.nil _ | refine Sub.cons rfl ?_)) (by repeat (first | exact Pck.nil _ | exact Pck.refl _ | (apply Pck.cons; focus ((repeat (first | exact Rem.here _ | apply Rem.there)); done)) | refine Pck.skip _ ?_))
          · skip
            rintro ⟨s10, q1⟩ ⟨hs10, hq1, hq2⟩
            dsimp only at hs10 hq1 hq2 ⊢
            refine ex_then ?_
            refine cod_seq ?_
            refine cod_region ?_
            refine lst_loadN rfl rfl F.agg24 F.ti24 ?_
            refine lst_store rfl rfl F.ti24 rfl ?_
            refine lst_nil ?_
            refine ex_then ?_
            refine cod_ret ?_
            exact ex_ret rfl (fun a w ha => by exact res_cellN (ha := ha) rfl rfl F.agg24 F.ti24 rfl) (fun _ _ ha' => ⟨tk + 1 + few + few + 1 + few + few + 1 + 1 + 1, s10, ⟨0, q1, k1, l0, c0⟩, by omega, hs10, ⟨(show (0 : Nat) < 64 by omega), hq1, hk1, hl0, hq2, ⟨hc0a, hc0b⟩⟩, rfl, ha.back (ha'.pck (by repeat (first | exact Pck.nil _ | exact Pck.refl _ | (apply Pck.cons; focus ((repeat (first | exact Rem.here _ | apply Rem.there)); done)) | refine Pck.skip _ ?_)))⟩)
        · skip
          refine cod_skip ?_
          refine ex_then ?_
          refine cod_seq ?_
          refine cod_region ?_
          refine lst_loadN rfl rfl F.agg24 F.ti24 ?_
          refine lst_store rfl rfl F.ti24 rfl ?_
          refine lst_nil ?_
          refine ex_then ?_
          refine cod_ret ?_
          exact ex_ret rfl (fun a w ha => by exact res_cellN (ha := ha) rfl rfl F.agg24 F.ti24 rfl) (fun _ _ ha' => ⟨tk + 1 + few + few + 1 + few + few + 1 + 1, s9, ⟨0, 0, k1, l0, c0⟩, by omega, hs9, ⟨(show (0 : Nat) < 64 by omega), (show (0 : Nat) < 64 by omega), hk1, hl0, Nat.and_zero _, ⟨hc0a, hc0b⟩⟩, rfl, ha.back (ha'.pck (by repeat (first | exact Pck.nil _ | exact Pck.refl _ | (apply Pck.cons; focus ((repeat (first | exact Rem.here _ | apply Rem.there)); done)) | refine Pck.skip _ ?_)))⟩)

end Go.Proofs.YtofkhehcnfiopaaDoor.N
namespace Go.Proofs.YtofkhehcnfiopaaDoor.N
open Go Go.RowKit Go.Proofs
set_option linter.unusedSectionVars false
variable [I : Sys]
/-- What a melt is behind a way; none if it is no way. -/
def followN (ags : List Ag) : Nat → List Nat → Option Nat
  | f, [] => some f
  | f, i :: l => if i < ags.length ∧ mayN (ags.getD i default) f = true then followN ags (putN (ags.getD i default) f) l else none
def followV (o : Option Nat) : Nat := o.getD 0
end Go.Proofs.YtofkhehcnfiopaaDoor.N
namespace Go.Proofs.YtofkhehcnfiopaaDoor.N
open Go Go.RowKit Go.Proofs
set_option linter.unusedSectionVars false
variable [I : Sys]
theorem F.ent50 : Enters Tryd.prog 50 := enters_of Tryd.func50 rfl (by kernel_rfl)
theorem AgentsOf_c {C : Ctx} {fr : List (Nat × Value)} {T : List Res} {a : Act} {w : World} (hC : C.P = Tryd.prog) {hb tk st nc : Nat} {nA : Option Addr} {nums : List Int} (hB : C.w0.heap.size = C.B) (hN : RdL icell 1 C.w0 nA nums) (htk : tk ≤ 980000) (hst : st < 18446744073709551616) {many few : Nat} (hmany : many ≤ 4) (hf1 : 1 ≤ few) (hfew : few ≤ 6) (ha : At C fr (.blk hb (hatO nA nums.length nc (tk) (st)) :: T) a w) : Calls C.P 34 #[.pointer (some ⟨hb, 0, none⟩), .int .i64 (many : Int), .int .i64 (few : Int)] w fun e w' => ∃ (tk' st' : Nat) (l : List Ag) (A : Option Addr) (c : Nat), tk' ≤ tk + 200 ∧ st' < 18446744073709551616 ∧ l.length ≤ many ∧ (∀ x ∈ l, x.ok) ∧ e = .returned (.slice A l.length c) ∧ At C fr (.row 24 5 A l.length c (l.flatMap Ag.cells) :: .blk hb (hatO nA nums.length nc (tk') (st')) :: T) a w' := by
  obtain ⟨P, B, w0, N0, ds⟩ := C
  obtain rfl : P = Tryd.prog := hC
  (try dsimp only at hB)
  (try dsimp only at hN)
  refine enter_in (N := 23) [(0, .pointer (some ⟨hb, 0, none⟩)), (1, .int .i64 (many : Int)), (2, .int .i64 (few : Int))] ha Tryd.func34 rfl Tryd.ntmps34 rfl rfl ?_
  refine cod_seq ?_
  refine cod_region ?_
  refine lst_assign rfl rfl ?_
  refine lst_nil ?_
  refine ex_then ?_
  refine cod_seq ?_
  refine cod_region ?_
  refine lst_assign rfl rfl ?_
  refine lst_nil ?_
  refine ex_then ?_
  refine cod_seq ?_
  refine cod_seq ?_
  refine cod_region ?_
  refine lst_move rfl rfl ?_
  refine lst_move rfl rfl ?_
  refine lst_call_pul (X := Nat × Nat) (vs := [_, _, _]) hb (fun y => hatO nA nums.length nc (tk + 1) (y.1)) (fun y => y.1 < 18446744073709551616 ∧ 0 ≤ y.2 ∧ y.2 ≤ many) (fun y => .int .i64 (y.2 : Int)) rfl rfl F.ent87 (fun a w ha => (From_c (C := ⟨Tryd.prog, B, w0, _, _⟩) rfl hB hN (tk := tk) (st := st) (lo := 0) (hi := many) (by omega) hst (by omega) (by omega) ha).mono (fun e w' h => by obtain ⟨s', x, h1, h2, h3, h4, h5⟩ := h; exact ⟨(s', x), ⟨h1, h2, h3⟩, h4, h5⟩)) ?_
  rintro ⟨s1, n0⟩ ⟨hs1, _, hn0⟩
  dsimp only at hs1 hn0 ⊢
  refine lst_assign rfl rfl ?_
  refine lst_nil ?_
  refine ex_then ?_
  refine cod_block ?_
  refine cod_nil 24 5 ?_
  refine cod_loop' (G := Nat × Nat × Nat × Option Addr × Nat × List Ag) (fun g => g.1 + g.2.2.2.2.2.length ≤ many ∧ (∀ x ∈ g.2.2.2.2.2, x.ok) ∧ g.2.1 ≤ tk + 1 + 40 * g.2.2.2.2.2.length ∧ g.2.2.1 < 18446744073709551616) (fun g => g.1) (fun g => [(0, .pointer (some ⟨hb, 0, none⟩)), (1, .int .i64 (many : Int)), (2, .int .i64 (few : Int)), (7, .slice g.2.2.2.1 g.2.2.2.2.2.length g.2.2.2.2.1), (8, .int .i64 (g.1 : Int))]) (fun g => .row 24 5 g.2.2.2.1 g.2.2.2.2.2.length g.2.2.2.2.1 (g.2.2.2.2.2.flatMap Ag.cells) :: .blk hb (hatO nA nums.length nc (g.2.1) (g.2.2.1)) :: T) (n0, tk + 1, s1, none, 0, []) ⟨by simp; omega, by simp, by simp, hs1⟩ (by repeat (first | exact Sub.nil _ | refine Sub.cons rfl ?_)) (by repeat (first | exact Pck.nil _ | exact Pck.refl _ | (apply Pck.cons; focus ((repeat (first | exact Rem.here _ | apply Rem.there)); done)) | refine Pck.skip _ ?_)) ?_
  rintro ⟨i, t1, s2, A1, c1, l⟩ ⟨hil, hlo, ht1, hs2⟩
  dsimp only at hil hlo ht1 hs2 ⊢
  refine cod_seq ?_
  refine cod_seq ?_
  refine cod_region ?_
  refine lst_move rfl rfl ?_
  refine lst_int rfl rfl rfl bin_gtr ?_
  refine lst_nil ?_
  refine ex_then ?_
  refine cod_cond_dec rfl (fun hc0 => ?_) (fun hc0 => ?_)
  · skip
    obtain ⟨i, rfl⟩ : ∃ i', i = i' + 1 := ⟨i - 1, by omega⟩
    refine cod_skip ?_
    refine ex_then ?_
    refine cod_seq ?_
    refine cod_block ?_
    refine cod_region ?_
    refine lst_move rfl rfl ?_
    refine lst_move rfl rfl ?_
    refine lst_move rfl rfl ?_
    refine lst_call_pul (X := Nat × Nat × Ag) (vs := [_, _]) hb (fun y => hatO nA nums.length nc (y.1) (y.2.1)) (fun y => y.1 ≤ t1 + 40 ∧ y.2.1 < 18446744073709551616 ∧ y.2.2.ok) (fun y => .agg [.int .i64 (y.2.2.needs : Int), .int .i64 (y.2.2.no : Int), .int .i64 (y.2.2.takes : Int), .int .i64 (y.2.2.leaves : Int), .int .i64 (y.2.2.cost : Int)].toArray) rfl rfl F.ent50 (fun a w ha => (AgentOf_c (C := ⟨Tryd.prog, B, w0, _, _⟩) rfl hB hN (tk := t1) (st := s2) (few := few) (by omega) hs2 hf1 hfew ha).mono (fun e w' h => by obtain ⟨t', s', x, h1, h2, h3, h4, h5⟩ := h; exact ⟨(t', s', x), ⟨h1, h2, h3⟩, h4, h5⟩)) ?_
    rintro ⟨t2, s3, x⟩ ⟨ht2, hs3, hxo⟩
    dsimp only at ht2 hs3 hxo ⊢
    refine lst_litN (vs := [(0, _)]) [_, _, _, _, _] rfl rfl Tryd.underlying22 F.ti24 rfl rfl rfl ⟨rfl, [_, _, _, _, _], [], rfl, rfl, rfl, rfl⟩ ?_
    intro b20
    refine lst_append rfl rfl rfl Tryd.underlying22 F.ti24 rfl rfl rfl (by unfold maxLen; omega) (by omega) ?_
    intro A2 c2
    refine lst_assign rfl rfl ?_
    refine lst_nil ?_
    refine ex_block_normal ?_
    refine ex_then ?_
    refine cod_region ?_
    refine lst_move rfl rfl ?_
    refine lst_int rfl rfl rfl (fun w => bin_sub w (show IntKind.i64.wrap (((i + 1 : Nat) : Int) - 1) = (i : Int) from by rw [wrap_i64' _ (by omega) (by omega)]; omega)) ?_
    refine lst_assign rfl rfl ?_
    refine lst_nil ?_
    refine ex_round' (i, t2, s3, A2, c2, l ++ [x]) ⟨by simp; omega, fun y hy => ?_, by simp; omega, hs3⟩ (by (try dsimp only); omega) (by dsimp only; rw [List.length_append, List.length_singleton]; repeat (first | exact Sub.nil _ | refine Sub.cons rfl ?_)) (by dsimp only; rw [List.length_append, List.length_singleton, List.flatMap_append, List.flatMap_singleton]; repeat (first | exact Pck.nil _ | exact Pck.refl _ | (apply Pck.cons; focus ((repeat (first | exact Rem.here _ | apply Rem.there)); done)) | refine Pck.skip _ ?_))
    rcases List.mem_append.1 hy with h | h
    · exact hlo y h
    · simp at h; subst h; exact hxo
  · skip
    refine cod_exit ?_
    refine ex_then_exit ?_
    refine ex_then_exit ?_
    refine ex_block_exit ?_
    refine ex_then ?_
    refine cod_seq ?_
    refine cod_region ?_
    refine lst_move rfl rfl ?_
    refine lst_assign rfl rfl ?_
    refine lst_nil ?_
    refine ex_then ?_
    refine cod_ret ?_
    exact ex_ret rfl (fun a w ha => res_one rfl rfl ha) (fun _ _ ha' => ⟨t1, s2, l, A1, c1, by omega, hs2, by omega, hlo, rfl, ha.back (ha'.pck (by repeat (first | exact Pck.nil _ | exact Pck.refl _ | (apply Pck.cons; focus ((repeat (first | exact Rem.here _ | apply Rem.there)); done)) | refine Pck.skip _ ?_)))⟩)

end Go.Proofs.YtofkhehcnfiopaaDoor.N
namespace Go.Proofs.YtofkhehcnfiopaaDoor.N
open Go Go.RowKit Go.Proofs
set_option linter.unusedSectionVars false
variable [I : Sys]
section
variable {C : Ctx} {fr : List (Nat × Value)} {hp hp' : List Res} {a : Act} {w : World} {ops : Array Oper} {Q : Exit → Act → World → Prop} {rest : List Oper}
  {d : Nat} {ty : TypeId} {pos : String} {after : Array Edge}
/-- Nothing is appended. -/
theorem lst_append_none {x y : Operand} {t e : TypeId} {p : Addr} {n c size bytes : Nat} {z : Value} (hd : Nat.blt d C.N = true)
    (hx : ev fr x = some (.slice (some p) n c)) (hy : ev fr y = some (.slice none 0 0)) (ht : C.P.underlying t = some (.slice e)) (hi : TI C.P e z size bytes) (hnc : n ≤ c)
    (k : Lst C ops Q rest ((d, .slice (some p) n c) :: fr) hp) :
    Lst C ops Q (⟨some d, .call { callee := .builtin .append, args := #[x, y], argTypes := #[t, t] }, ty, pos, after, none⟩ :: rest) fr hp := by
  obtain ⟨i, hi1, hi2, hi3, hi4⟩ := hi
  refine lst_value _ hd (fun a w ha => tame_builtin fun cs => by simp only [List.map_toArray, List.map_cons, List.map_nil, ha.eval hx, ha.eval hy]; exact tame_append ht) (fun a w ha => ⟨w, ?_, ha⟩) k
  have hr : (Builtin.append_ #[t, t] ty #[.slice (some p) n c, .slice none 0 0]).run C.P w = .ok (.slice (some p) n c) w := by
    simp [Builtin.append_, run_underlying ht, sizeOf, typeInfo, hi1, Builtin.lenOf, hnc, run_firstCells_none, storeCells]
  simp only [execOp, resolve, invoke, builtin, Sem.run_bind, Sem.run_pure, Result.andThen_ok, List.map_toArray, List.map_cons, List.map_nil, ha.eval hx, ha.eval hy, hr]
end
/-- A list of numbers, somewhere. -/
structure Sl where
  A : Option Addr
  c : Nat
  l : List Nat
def Sl.val (s : Sl) : Value := .slice s.A s.l.length s.c
def Sl.res (s : Sl) : Res := .row 3 1 s.A s.l.length s.c (ints s.l)
theorem Pck.snoc (Ms : List Sl) (s : Sl) (R : List Res) : Pck ((Ms ++ [s]).map Sl.res ++ R) (s.res :: (Ms.map Sl.res ++ R)) := by
  refine .perm ?_ (.refl _)
  rw [List.map_append, List.append_assoc]
  exact List.perm_middle.symm
/-- All lists of k numbers below n, in their order. -/
def strs (n : Nat) : Nat → List (List Nat)
  | 0 => [[]]
  | k + 1 => (strs n k).flatMap fun x => (List.range n).map fun y => x ++ [y]
end Go.Proofs.YtofkhehcnfiopaaDoor.N
namespace Go.Proofs.YtofkhehcnfiopaaDoor.N
open Go Go.RowKit Go.Proofs
set_option linter.unusedSectionVars false
variable [I : Sys]
theorem Pck.of_sub {t l : List Res} (h : t.Sublist l) : Pck t l := by
  induction h with
  | slnil => exact .nil _
  | cons x _ ih => exact .skip x ih
  | cons_cons x _ ih => exact .cons (.here _) ih
theorem Pck.pre (l R : List Res) : Pck (l ++ []) (l ++ R) := .of_sub (by rw [List.append_nil]; exact List.sublist_append_left l R)
theorem row_none {C : Ctx} {fr : List (Nat × Value)} {hp : List Res} {a : Act} {w : World} (ha : At C fr hp a w) {e size n c : Nat} {A : Option Addr} {xs : List Value} (hm : Res.row e size A n c xs ∈ hp) (hA : A = none) : n = 0 ∧ c = 0 := by
  subst hA
  rcases (ha.own _ hm).2 with ⟨h1, h2⟩ | ⟨g, cap, cur, h1, _⟩
  · injection h1 with _ h3 h4
    exact ⟨h2, h4⟩
  · cases h1
theorem strs_mem {n : Nat} : ∀ {k : Nat} {x : List Nat}, x ∈ strs n k → x.length = k ∧ ∀ i ∈ x, i < n
  | 0, x, h => by
    simp [strs] at h
    subst h
    exact ⟨rfl, by simp⟩
  | k + 1, x, h => by
    unfold strs at h
    obtain ⟨y, hy, h2⟩ := List.mem_flatMap.1 h
    obtain ⟨z, hz, rfl⟩ := List.mem_map.1 h2
    obtain ⟨h3, h4⟩ := strs_mem hy
    refine ⟨by simp [h3], fun i hi => ?_⟩
    rcases List.mem_append.1 hi with h5 | h5
    · exact h4 i h5
    · simp at h5; subst h5; exact List.mem_range.1 hz
end Go.Proofs.YtofkhehcnfiopaaDoor.N
namespace Go.Proofs.YtofkhehcnfiopaaDoor.N
open Go Go.RowKit Go.Proofs
set_option linter.unusedSectionVars false
variable [I : Sys]
theorem Pck.swap (l R : List Res) : Pck (R ++ l) (l ++ R) := .perm List.perm_append_comm (.refl _)
theorem agd_ok {ags : List Ag} (hok : Oks ags) {i : Nat} (hi : i < ags.length) : (ags.getD i default).ok := by
  rw [List.getD_eq_getElem?_getD, List.getElem?_eq_getElem hi]
  exact hok.2 _ (List.getElem_mem hi)
theorem followN_lt {ags : List Ag} (hok : Oks ags) : ∀ (way : List Nat) (f g : Nat), f < 64 → followN ags f way = some g → g < 64
  | [], f, g, hf, h => by
    have : f = g := Option.some.inj h
    omega
  | i :: l, f, g, hf, h => by
    unfold followN at h
    split at h
    · rename_i hc
      exact followN_lt hok l _ _ (putN_lt (agd_ok hok hc.1) hf) h
    · cases h
theorem run_two {ags : List Ag} : ∀ (v : List Nat) (a b c : Nat), run (stepT ags (usedAll ags.length) 2) (a, b, c) v = (followN ags a v).bind fun x => (followN ags b v).map fun y => (x, y, c)
  | [], a, b, c => rfl
  | i :: l, a, b, c => by
    show (stepT ags (usedAll ags.length) 2 (a, b, c) i).bind (fun t => run (stepT ags (usedAll ags.length) 2) t l) = _
    have hm : mayT (ags.getD i default) (a, b, c) 2 = (mayN (ags.getD i default) a && mayN (ags.getD i default) b) := by
      simp [mayT, List.range_succ, tget]
    unfold stepT followN
    rw [hm]
    by_cases hi : i < ags.length
    · have hu : (usedAll ags.length).testBit i = true := by rw [usedAll_bit]; simpa using hi
      cases h1 : mayN (ags.getD i default) a <;> cases h2 : mayN (ags.getD i default) b <;> simp [hi, hu]
      · exact run_two l _ _ _
    · simp [hi]
/-- A list of agents that clears both melts. -/
def clears (ags : List Ag) (a b p : Nat) (v : List Nat) : Bool :=
  (followN ags a v).isSome && (followN ags b v).isSome && decide (nn (followV (followN ags a v)) p = 0) && decide (nn (followV (followN ags b v)) p = 0)
/-! Lists in their order. -/
theorem strs_all {n : Nat} : ∀ {k : Nat} {v : List Nat}, Wd n v → v.length = k → v ∈ strs n k
  | 0, v, _, h => by
    obtain rfl : v = [] := List.eq_nil_of_length_eq_zero h
    simp [strs]
  | k + 1, v, hv, h => by
    rcases snoc_cases v with rfl | ⟨u, i, rfl⟩
    · simp at h
    · obtain ⟨h1, h2⟩ := Wd.snoc.1 hv
      unfold strs
      exact List.mem_flatMap.2 ⟨u, strs_all h1 (by simpa using h), List.mem_map.2 ⟨i, List.mem_range.2 h2, rfl⟩⟩
theorem strs_sorted (n : Nat) : ∀ k, (strs n k).Pairwise (fun u v => code n u < code n v)
  | 0 => by simp [strs]
  | k + 1 => by
    unfold strs
    rw [List.pairwise_flatMap]
    refine ⟨fun x _ => ?_, ?_⟩
    · rw [List.pairwise_map]
      refine List.Pairwise.imp ?_ List.pairwise_lt_range
      intro i j hij
      rw [code_snoc, code_snoc]
      omega
    · refine List.Pairwise.imp ?_ (strs_sorted n k)
      intro u v huv x hx y hy
      obtain ⟨i, hi, rfl⟩ := List.mem_map.1 hx
      obtain ⟨j, _, rfl⟩ := List.mem_map.1 hy
      rw [code_snoc, code_snoc]
      exact code_snoc_lt huv (List.mem_range.1 hi)
theorem strs_le_code {n k i j : Nat} {u v : List Nat} (hu : (strs n k)[i]? = some u) (hv : (strs n k)[j]? = some v) (hij : i ≤ j) : code n u ≤ code n v := by
  rcases Nat.lt_or_ge i j with h | h
  · obtain ⟨h1, e1⟩ := List.getElem?_eq_some_iff.1 hu
    obtain ⟨h2, e2⟩ := List.getElem?_eq_some_iff.1 hv
    have := List.pairwise_iff_getElem.1 (strs_sorted n k) i j h1 h2 h
    rw [e1, e2] at this
    omega
  · obtain rfl : i = j := by omega
    rw [hu] at hv
    cases hv
    exact Nat.le_refl _
end Go.Proofs.YtofkhehcnfiopaaDoor.N
namespace Go.Proofs.YtofkhehcnfiopaaDoor.N
open Go Go.RowKit Go.Proofs
set_option linter.unusedSectionVars false
variable [I : Sys]
theorem F.ent21 : Enters Tryd.prog 21 := enters_of Tryd.func21 rfl (by kernel_rfl)
theorem F.ent22 : Enters Tryd.prog 22 := enters_of Tryd.func22 rfl (by kernel_rfl)
theorem F.ent34 : Enters Tryd.prog 34 := enters_of Tryd.func34 rfl (by kernel_rfl)
theorem F.pl68 : Places Tryd.prog 68 [(0, 1), (1, 1), (2, 1)] := .inl ⟨_, Tryd.underlying68, by kernel_rfl⟩
theorem F.ti68 : TI Tryd.prog 68 (.agg [.slice none 0 0, .int .i64 0, .int .u64 0].toArray) 3 40 := TI.of (by kernel_rfl)
theorem NewHat_c (nA : Option Addr) (n nc : Nat) (w : World) : Calls Tryd.prog 22 #[.slice nA n nc] w fun e w' => ∃ b, e = .returned (.pointer (some ⟨b, 0, none⟩)) ∧ Grew w w' [.blk b (hatO nA n nc 0 11400714819323198485)] := by
  refine enter (N := 6) [(0, .slice nA n nc)] Tryd.func22 rfl Tryd.ntmps22 rfl rfl ?_
  refine cod_seq ?_
  refine cod_region ?_
  refine lst_assign rfl rfl ?_
  refine lst_nil ?_
  refine ex_then ?_
  refine cod_seq ?_
  refine cod_region ?_
  refine lst_move rfl rfl ?_
  refine lst_struct (vs := [(0, _), (2, _)]) (l' := [_, _, _]) rfl rfl F.ti68 F.pl68 (.cons rfl rfl (.cons rfl rfl (.nil _))) rfl ?_
  refine lst_box rfl rfl ?_
  intro b5
  refine lst_assign rfl rfl ?_
  refine lst_nil ?_
  refine ex_then ?_
  refine cod_ret ?_
  exact ex_ret rfl (fun a w ha => res_one rfl rfl ha) (fun a w ha => ⟨b5, rfl, ha.grown (by repeat (first | exact List.Sublist.refl _ | exact List.nil_sublist _ | refine List.Sublist.cons_cons _ ?_ | refine List.Sublist.cons _ ?_))⟩)

end Go.Proofs.YtofkhehcnfiopaaDoor.N
namespace Go.Proofs.YtofkhehcnfiopaaDoor.N
open Go Go.RowKit Go.Proofs
set_option linter.unusedSectionVars false
variable [I : Sys]
variable {ags : List Ag} {a b : Nat}
theorem followN_snoc (i : Nat) : ∀ (u : List Nat) (f : Nat), followN ags f (u ++ [i]) = (followN ags f u).bind fun x => if i < ags.length ∧ mayN (ags.getD i default) x = true then some (putN (ags.getD i default) x) else none
  | [], f => by
    show followN ags f [i] = _
    unfold followN
    rfl
  | j :: u, f => by
    show followN ags f (j :: (u ++ [i])) = _
    unfold followN
    split
    · exact followN_snoc i u _
    · rfl
/-- A list whose last agent may be put to just one of both melts. -/
def tq (ags : List Ag) (a b : Nat) (v : List Nat) : Bool :=
  (followN ags a v.dropLast).isSome && (followN ags b v.dropLast).isSome && ((followN ags a v).isSome != (followN ags b v).isSome)
theorem tq_nil : tq ags a b [] = false := by
  unfold tq
  simp [followN]
theorem tq_snoc {u : List Nat} {i : Nat} : tq ags a b (u ++ [i]) = true ↔ ∃ x y, followN ags a u = some x ∧ followN ags b u = some y ∧ i < ags.length ∧ mayN (ags.getD i default) x ≠ mayN (ags.getD i default) y := by
  unfold tq
  rw [List.dropLast_concat, followN_snoc, followN_snoc]
  cases h1 : followN ags a u with
  | none => simp
  | some x =>
    cases h2 : followN ags b u with
    | none => simp
    | some y =>
      generalize ags.getD i default = z
      by_cases hi : i < ags.length
      · cases h3 : mayN z x <;> cases h4 : mayN z y <;> simp [hi, h3, h4]
      · simp [hi]
theorem tq_sym (v : List Nat) : tq ags a b v = tq ags b a v := by
  unfold tq
  cases (followN ags a v.dropLast).isSome <;> cases (followN ags b v.dropLast).isSome <;> cases (followN ags a v).isSome <;> cases (followN ags b v).isSome <;> rfl
theorem tq_self (v : List Nat) : tq ags a a v = false := by
  unfold tq
  simp
theorem tells_mem {x y c i : Nat} (_hi : i < ags.length) (h : mayN (ags.getD i default) x ≠ mayN (ags.getD i default) y) : tells (ags.getD i default) (x, y, c) = true := by
  unfold tells
  simp
  exact h
theorem tellsI_le {x y c i : Nat} (hi : i < ags.length) (h : mayN (ags.getD i default) x ≠ mayN (ags.getD i default) y) : tellsI ags (x, y, c) ≤ i := by
  unfold tellsI
  rcases Nat.lt_or_ge i (ags.findIdx (tells · (x, y, c))) with h1 | h1
  · have h2 := List.not_of_lt_findIdx h1
    have h3 := tells_mem (c := c) hi h
    rw [List.getD_eq_getElem?_getD, List.getElem?_eq_getElem hi] at h3
    simp at h2 h3
    rw [h3] at h2
    cases h2
  · exact h1
theorem tellsI_lt {t : Tm} (h : tellsG ags t = true) : tellsI ags t < ags.length := by
  unfold tellsI
  rw [List.findIdx_lt_length]
  exact List.any_eq_true.1 h
theorem tellsI_is {x y c : Nat} (h : tellsG ags (x, y, c) = true) : mayN (ags.getD (tellsI ags (x, y, c)) default) x ≠ mayN (ags.getD (tellsI ags (x, y, c)) default) y := by
  have hl := tellsI_lt h
  have h1 : tells (ags[tellsI ags (x, y, c)]) (x, y, c) = true := List.findIdx_getElem (w := hl)
  rw [List.getD_eq_getElem?_getD, List.getElem?_eq_getElem hl]
  unfold tells at h1
  simpa [tget] using h1
theorem tellsG_of {x y c i : Nat} (hi : i < ags.length) (h : mayN (ags.getD i default) x ≠ mayN (ags.getD i default) y) : tellsG ags (x, y, c) = true := by
  have h3 := tells_mem (c := c) hi h
  rw [List.getD_eq_getElem?_getD, List.getElem?_eq_getElem hi] at h3
  exact List.any_eq_true.2 ⟨_, List.getElem_mem hi, h3⟩
theorem run_two' {u : List Nat} {x y c : Nat} (h1 : followN ags a u = some x) (h2 : followN ags b u = some y) : run (stepT ags (usedAll ags.length) 2) (a, b, c) u = some (x, y, c) := by
  rw [run_two, h1, h2]; rfl
theorem run_two_inv {u : List Nat} {c : Nat} {t : Tm} (h : run (stepT ags (usedAll ags.length) 2) (a, b, c) u = some t) : ∃ x y, followN ags a u = some x ∧ followN ags b u = some y ∧ t = (x, y, c) := by
  rw [run_two] at h
  cases h1 : followN ags a u with
  | none => rw [h1] at h; cases h
  | some x =>
    rw [h1] at h
    cases h2 : followN ags b u with
    | none => rw [h2] at h; cases h
    | some y =>
      rw [h2] at h
      exact ⟨x, y, rfl, rfl, (Option.some.inj h).symm⟩
def TellsS (ags : List Ag) (a b : Nat) : Option Wk → Prop
  | none => ∀ v, v.length ≤ 5 → tq ags a b v = false
  | some k => tq ags a b (k.how ++ [tellsI ags k.team]) = true ∧ Wd ags.length (k.how ++ [tellsI ags k.team]) ∧ (k.how ++ [tellsI ags k.team]).length ≤ 5 ∧ ∀ v, tq ags a b v = true → v.length ≤ 5 → code ags.length (k.how ++ [tellsI ags k.team]) ≤ code ags.length v
theorem tells_spec {o : Option Wk} (ho : FoundO ags (usedAll ags.length) 2 4 (a, b, 0) (tellsG ags) o) : TellsS ags a b o := by
  cases o with
  | none =>
    intro v hv
    rcases snoc_cases v with rfl | ⟨u, i, rfl⟩
    · exact tq_nil
    · cases hq : tq ags a b (u ++ [i]) with
      | false => rfl
      | true =>
        obtain ⟨x, y, h1, h2, h3, h4⟩ := tq_snoc.1 hq
        have := ho u _ (run_two' (c := 0) h1 h2) (.inr (by simp at hv; omega))
        rw [tellsG_of h3 h4] at this
        cases this
  | some k =>
    obtain ⟨h1, h2, h3⟩ := ho
    obtain ⟨x, y, e1, e2, e3⟩ := run_two_inv h2
    have hl := tellsI_lt h3
    have hwd := run_wd _ stepT_none _ _ _ h2
    have hfit : k.how.length ≤ 4 := by
      have := h1.2.1
      unfold Fits at this
      omega
    refine ⟨?_, Wd.snoc.2 ⟨hwd, hl⟩, by simp; omega, ?_⟩
    · rw [e3] at h3 hl ⊢
      exact tq_snoc.2 ⟨x, y, e1, e2, hl, tellsI_is h3⟩
    · intro v hv hv5
      rcases snoc_cases v with rfl | ⟨u, i, rfl⟩
      · rw [tq_nil] at hv; cases hv
      · obtain ⟨x', y', g1, g2, g3, g4⟩ := tq_snoc.1 hv
        have hr := run_two' (c := 0) g1 g2
        have hle := h1.2.2 u _ hr (tellsG_of g3 g4) (.inr (by simp at hv5; omega))
        rw [code_snoc, code_snoc]
        rcases Nat.lt_or_eq_of_le hle with hlt | heq
        · exact Nat.le_of_lt (code_snoc_lt hlt hl)
        · have hu := code_inj ags.length _ _ _ rfl hwd (run_wd _ stepT_none _ _ _ hr) heq
          subst hu
          rw [h2] at hr
          obtain ht := Option.some.inj hr
          rw [ht]
          have := tellsI_le (c := 0) g3 g4
          omega
theorem tellsL_len {o : Option Wk} (ho : FoundO ags (usedAll ags.length) 2 4 (a, b, 0) (tellsG ags) o) : (tellsL ags o).length ≤ 5 := by
  cases o with
  | none => exact Nat.zero_le _
  | some k => exact (tells_spec ho).2.2.1
theorem TellsS.sym {o : Option Wk} (h : TellsS ags a b o) : TellsS ags b a o := by
  cases o with
  | none => exact fun v hv => by rw [tq_sym]; exact h v hv
  | some k => exact ⟨by rw [tq_sym]; exact h.1, h.2.1, h.2.2.1, fun v hv => h.2.2.2 v (by rw [tq_sym]; exact hv)⟩
theorem TellsS.self {o : Option Wk} (h : TellsS ags a a o) : o = none := by
  cases o with
  | none => rfl
  | some k => have := h.1; rw [tq_self] at this; cases this
theorem TellsS.at {o : Option Wk} (h : TellsS ags a b o) {k i : Nat} {v : List Nat} (hk : k ≤ 5) (hv : (strs ags.length k)[i]? = some v) (hc : tq ags a b v = true) (h0 : ∀ u, Wd ags.length u → u.length < k → tq ags a b u = false)
    (h1 : ∀ j u, j < i → (strs ags.length k)[j]? = some u → tq ags a b u = false) : o.isSome = true ∧ tellsL ags o = v := by
  have hvl := (strs_mem (List.mem_of_getElem? hv)).1
  have hvw : Wd ags.length v := (strs_mem (List.mem_of_getElem? hv)).2
  cases o with
  | none => have := h v (by omega); rw [hc] at this; cases this
  | some w =>
    refine ⟨rfl, ?_⟩
    obtain ⟨g1, g2, g3, g4⟩ := h
    have hle := g4 v hc (by omega)
    show w.how ++ [tellsI ags w.team] = v
    rcases Nat.lt_trichotomy (w.how ++ [tellsI ags w.team]).length k with hl | hl | hl
    · rw [h0 _ g2 hl] at g1; cases g1
    · obtain ⟨j, hj⟩ := List.getElem?_of_mem (strs_all g2 hl)
      rcases Nat.lt_or_ge j i with h2 | h2
      · rw [h1 j _ h2 hj] at g1; cases g1
      · exact code_inj ags.length _ _ _ rfl g2 hvw (Nat.le_antisymm hle (strs_le_code hv hj h2))
    · have := code_lt_of_len ags.length _ (w.how ++ [tellsI ags w.team]) v rfl (by omega) hvw
      omega
end Go.Proofs.YtofkhehcnfiopaaDoor.N
namespace Go.Proofs.YtofkhehcnfiopaaDoor.N
open Go Go.RowKit Go.Proofs
set_option linter.unusedSectionVars false
variable [I : Sys]
variable {C : Ctx} {fr : List (Nat × Value)} {hp : List Res} {ops : Array Oper} {Q : Exit → Act → World → Prop} {rest : List Oper} {d : Nat} {ty : TypeId} {pos : String} {after : Array Edge}
theorem RdL.take {α : Type} {cells : α → List Value} {size : Nat} {w : World} {A : Option Addr} {l : List α} (h : RdL cells size w A l) (n : Nat) : RdL cells size w A (l.take n) := fun hl => by
  rw [List.length_take] at hl
  obtain ⟨b, o, h1, h2, h3⟩ := h (by omega)
  refine ⟨b, o, h1, h2, fun k x hk j u hu => h3 k x ?_ j u hu⟩
  rw [List.getElem?_take] at hk
  split at hk
  · exact hk
  · cases hk
theorem RdL.drop {α : Type} {cells : α → List Value} {size : Nat} {w : World} {A : Option Addr} {l : List α} (h : RdL cells size w A l) {n cap : Nat} (hc : l.length ≤ cap) : RdL cells size w (if cap = n then A else A.map (·.add (n * size))) (l.drop n) := fun hl => by
  rw [List.length_drop] at hl
  obtain ⟨b, o, h1, h2, h3⟩ := h (by omega)
  rw [if_neg (by omega), h1]
  refine ⟨b, o + n * size, by rw [Option.map_some, addr_add], h2, fun k x hk j u hu => ?_⟩
  rw [List.getElem?_drop] at hk
  have := h3 (n + k) x hk j u hu
  rw [← this]
  congr 2
  rw [Nat.add_mul]
  omega
end Go.Proofs.YtofkhehcnfiopaaDoor.N
namespace Go.Proofs.YtofkhehcnfiopaaDoor.N
open Go Go.RowKit Go.Proofs
set_option linter.unusedSectionVars false
variable [I : Sys]
/-! The cheapest ways: prices that rounds come to are the least ones. -/
def lexle (c k c' k' : Nat) : Prop := c < c' ∨ (c = c' ∧ k ≤ k')
theorem lexle.trans {a b c d e f : Nat} (h : lexle a b c d) (h' : lexle c d e f) : lexle a b e f := by
  unfold lexle at *
  omega
theorem lexle.refl (a b : Nat) : lexle a b a b := Or.inr ⟨rfl, Nat.le_refl _⟩
theorem lexle.add {c k c' k' : Nat} (h : lexle c k c' k') (x : Nat) : lexle (c + x) (k + 1) (c' + x) (k' + 1) := by
  unfold lexle at *
  omega
theorem lexle.sub {c k c' k' x : Nat} (h : lexle (c + x) (k + 1) (c' + x) (k' + 1)) : lexle c k c' k' := by
  unfold lexle at *
  omega
theorem lexle.anti {c k c' k' : Nat} (h : lexle c k c' k') (h' : lexle c' k' c k) : c = c' ∧ k = k' := by
  unfold lexle at *
  omega
/-- What some way that clears a melt costs, and how many agents it has. -/
inductive Wy (ags : List Ag) (used p : Nat) : Nat → Nat → Nat → Prop
  | done {f : Nat} : nn f p = 0 → Wy ags used p f 0 0
  | step {f i c k : Nat} : i ∈ canTo ags used f ags.length → Wy ags used p (putN (ags.getD i default) f) c k → Wy ags used p f (c + (ags.getD i default).cost) (k + 1)
def Has (ps : List Pr) (f c k : Nat) : Prop := (ps.getD f default).known = true ∧ lexle (ps.getD f default).cost (ps.getD f default).puts c k
def Snd (ags : List Ag) (used p : Nat) (ps : List Pr) : Prop := ∀ f, f < 64 → (ps.getD f default).known = true → Wy ags used p f (ps.getD f default).cost (ps.getD f default).puts
def Min (ags : List Ag) (used p : Nat) (ps : List Pr) : Prop := ∀ f, f < 64 → ∀ c k, Wy ags used p f c k → Has ps f c k
def Le (ps qs : List Pr) : Prop := ∀ f, (ps.getD f default).known = true → Has qs f (ps.getD f default).cost (ps.getD f default).puts
theorem Le.refl (ps : List Pr) : Le ps ps := fun _ h => ⟨h, lexle.refl _ _⟩
theorem Has.le {ps qs : List Pr} {f c k : Nat} (h : Has ps f c k) (hl : Le ps qs) : Has qs f c k := by
  obtain ⟨h1, h2⟩ := h
  obtain ⟨h3, h4⟩ := hl f h1
  exact ⟨h3, h4.trans h2⟩
theorem Le.trans {ps qs rs : List Pr} (h : Le ps qs) (h' : Le qs rs) : Le ps rs := fun f hf => (h f hf).le h'
theorem lessP_true {a b : Pr} (h : lessP a b = true) : a.known = true ∧ (b.known = true → lexle a.cost a.puts b.cost b.puts ∧ ¬ lexle b.cost b.puts a.cost a.puts) := by
  unfold lessP at h
  simp at h
  refine ⟨h.1, fun hb => ?_⟩
  have h2 := h.2
  rw [hb] at h2
  simp at h2
  unfold lexle
  omega
theorem lessP_false {a b : Pr} (h : lessP a b = false) (ha : a.known = true) : b.known = true ∧ lexle b.cost b.puts a.cost a.puts := by
  unfold lessP at h
  rw [ha] at h
  cases hb : b.known with
  | false => rw [hb] at h; simp at h
  | true =>
    rw [hb] at h
    simp at h
    refine ⟨rfl, ?_⟩
    unfold lexle
    omega
theorem getP_set {ps : List Pr} {f g : Nat} {x : Pr} (hf : f < ps.length) : (ps.set f x).getD g default = if f = g then x else ps.getD g default := by
  rw [List.getD_eq_getElem?_getD, List.getElem?_set, List.getD_eq_getElem?_getD]
  by_cases e : f = g
  · subst e
    rw [if_pos rfl, if_pos rfl, if_pos hf]; rfl
  · rw [if_neg e, if_neg e]
variable {ags : List Ag} {used p : Nat}
theorem relax_len {f i : Nat} {s : List Pr × Bool} : (relax ags f s i).1.length = s.1.length := by
  unfold relax
  split
  · simp
  · rfl
theorem relaxF_len {f : Nat} : ∀ (l : List Nat) (s : List Pr × Bool), (relaxF ags f s l).1.length = s.1.length
  | [], _ => rfl
  | i :: l, s => by
    have := relaxF_len (f := f) l (relax ags f s i)
    unfold relaxF at this ⊢
    rw [List.foldl_cons, this, relax_len]
theorem roundP_len {ps : List Pr} : ∀ k, (roundP ags used ps k).1.length = ps.length
  | 0 => rfl
  | k + 1 => by
    unfold roundP
    rw [relaxF_len, roundP_len k]
theorem initP_len (p k : Nat) : (initP p k).length = 64 := by simp [initP]
theorem iterP_len : ∀ j, (iterP ags used p j).length = 64
  | 0 => initP_len p 64
  | j + 1 => by
    unfold iterP
    rw [roundP_len, iterP_len j]
/-! No price rises. -/
theorem relax_le {f i : Nat} {s : List Pr × Bool} (hf : f < s.1.length) : Le s.1 (relax ags f s i).1 := by
  unfold relax
  split
  · rename_i h
    intro g hg
    obtain ⟨h1, h2⟩ := lessP_true h
    unfold Has
    rw [getP_set hf]
    by_cases e : f = g
    · subst e
      rw [if_pos rfl]
      exact ⟨h1, (h2 hg).1⟩
    · rw [if_neg e]
      exact ⟨hg, lexle.refl _ _⟩
  · exact Le.refl _
theorem relaxF_le {f : Nat} : ∀ (l : List Nat) (s : List Pr × Bool), f < s.1.length → Le s.1 (relaxF ags f s l).1
  | [], s, _ => Le.refl _
  | i :: l, s, hf => by
    have h1 := relax_le (ags := ags) (i := i) hf
    have h2 := relaxF_le (f := f) l (relax ags f s i) (by rw [relax_len]; exact hf)
    unfold relaxF at h2 ⊢
    rw [List.foldl_cons]
    exact h1.trans h2
theorem roundP_le {ps : List Pr} (hl : ps.length = 64) : ∀ k, k ≤ 64 → Le ps (roundP ags used ps k).1
  | 0, _ => Le.refl _
  | k + 1, hk => by
    refine (roundP_le hl k (by omega)).trans ?_
    show Le (roundP ags used ps k).1 (relaxF ags k (roundP ags used ps k) (canTo ags used k ags.length)).1
    exact relaxF_le _ _ (by rw [roundP_len, hl]; omega)
theorem roundP_le_from {ps : List Pr} (hl : ps.length = 64) {k : Nat} : ∀ d, k + d ≤ 64 → Le (roundP ags used ps k).1 (roundP ags used ps (k + d)).1
  | 0, _ => Le.refl _
  | d + 1, hk => by
    refine (roundP_le_from hl d (by omega)).trans ?_
    show Le (roundP ags used ps (k + d)).1 (relaxF ags (k + d) (roundP ags used ps (k + d)) (canTo ags used (k + d) ags.length)).1
    exact relaxF_le _ _ (by rw [roundP_len, hl]; omega)
theorem iterP_le : ∀ j, Le (initP p 64) (iterP ags used p j)
  | 0 => Le.refl _
  | j + 1 => (iterP_le j).trans (show Le (iterP ags used p j) (roundP ags used (iterP ags used p j) 64).1 from roundP_le (iterP_len j) 64 (Nat.le_refl _))
/-! Each price is that of a way. -/
theorem Snd.relax {f i : Nat} {s : List Pr × Bool} (hok : Oks ags) (h : Snd ags used p s.1) (hl : s.1.length = 64) (hf : f < 64) (hi : i ∈ canTo ags used f ags.length) : Snd ags used p (relax ags f s i).1 := by
  unfold Go.Proofs.YtofkhehcnfiopaaDoor.N.relax
  split
  · rename_i hlt
    obtain ⟨h1, _⟩ := lessP_true hlt
    intro g hg hk
    rw [getP_set (by omega)] at hk ⊢
    by_cases e : f = g
    · subst e
      rw [if_pos rfl] at hk ⊢
      have ha : (ags.getD i default).ok := by
        have := (canTo_mem hi).1
        rw [List.getD_eq_getElem?_getD, List.getElem?_eq_getElem this]
        exact hok.2 _ (List.getElem_mem this)
      exact Wy.step hi (h _ (putN_lt ha hf) h1)
    · rw [if_neg e] at hk ⊢
      exact h g hg hk
  · exact h
theorem Snd.relaxF {f : Nat} (hok : Oks ags) (hf : f < 64) : ∀ (l : List Nat) (s : List Pr × Bool), (∀ i ∈ l, i ∈ canTo ags used f ags.length) → s.1.length = 64 → Snd ags used p s.1 → Snd ags used p (relaxF ags f s l).1
  | [], s, _, _, h => h
  | i :: l, s, hm, hl, h => by
    have h1 := Snd.relaxF hok hf l (Go.Proofs.YtofkhehcnfiopaaDoor.N.relax ags f s i) (fun j hj => hm j (List.mem_cons_of_mem _ hj)) (by rw [relax_len, hl]) (h.relax hok hl hf (hm i List.mem_cons_self))
    unfold Go.Proofs.YtofkhehcnfiopaaDoor.N.relaxF at h1 ⊢
    rw [List.foldl_cons]
    exact h1
theorem Snd.round {ps : List Pr} (hok : Oks ags) (hl : ps.length = 64) (h : Snd ags used p ps) : ∀ k, k ≤ 64 → Snd ags used p (roundP ags used ps k).1
  | 0, _ => h
  | k + 1, hk => by
    unfold roundP
    exact Snd.relaxF hok (by omega) _ _ (fun _ hi => hi) (by rw [roundP_len, hl]) (Snd.round hok hl h k (by omega))
theorem initP_getD {f : Nat} (hf : f < 64) : (initP p 64).getD f default = ⟨0, 0, decide (nn f p = 0)⟩ := by
  unfold initP
  simp [List.getD_eq_getElem?_getD, hf]
theorem Snd.iter (hok : Oks ags) : ∀ j, Snd ags used p (iterP ags used p j)
  | 0 => by
    intro f hf hk
    unfold iterP at hk ⊢
    rw [initP_getD hf] at hk ⊢
    exact Wy.done (by simpa using hk)
  | j + 1 => by
    unfold iterP
    exact (Snd.iter hok j).round hok (iterP_len j) 64 (Nat.le_refl _)
/-! What a round comes to. -/
theorem relax_has {f i : Nat} {s : List Pr × Bool} (hf : f < s.1.length) (hk : (s.1.getD (putN (ags.getD i default) f) default).known = true) :
    Has (relax ags f s i).1 f ((s.1.getD (putN (ags.getD i default) f) default).cost + (ags.getD i default).cost) ((s.1.getD (putN (ags.getD i default) f) default).puts + 1) := by
  unfold relax
  split
  · rename_i h
    unfold Has
    rw [getP_set hf, if_pos rfl]
    exact ⟨hk, lexle.refl _ _⟩
  · rename_i h
    have h' := lessP_false (by simpa using h) (show (afterP s.1 (ags.getD i default) f).known = true from hk)
    exact h'
theorem relaxF_has {f i : Nat} : ∀ (l : List Nat) (s : List Pr × Bool), f < s.1.length → i ∈ l → (s.1.getD (putN (ags.getD i default) f) default).known = true →
    Has (relaxF ags f s l).1 f ((s.1.getD (putN (ags.getD i default) f) default).cost + (ags.getD i default).cost) ((s.1.getD (putN (ags.getD i default) f) default).puts + 1)
  | [], s, _, hi, _ => by cases hi
  | x :: l, s, hf, hi, hk => by
    have hf' : f < (relax ags f s x).1.length := by rw [relax_len]; exact hf
    have hle := relax_le (ags := ags) (i := x) hf
    have h2 := relaxF_le (ags := ags) (f := f) l (relax ags f s x) hf'
    by_cases e : i = x
    · subst e
      have h1 := relax_has (ags := ags) (i := i) hf hk
      unfold relaxF at h2 ⊢
      rw [List.foldl_cons]
      exact h1.le h2
    · have hi' : i ∈ l := by
        rcases List.mem_cons.1 hi with h | h
        · exact absurd h e
        · exact h
      obtain ⟨k1, k2⟩ := hle _ hk
      have h3 := relaxF_has l (relax ags f s x) hf' hi' k1
      unfold relaxF at h3 ⊢
      rw [List.foldl_cons]
      exact ⟨h3.1, h3.2.trans (k2.add _)⟩
theorem roundP_has {ps : List Pr} (hl : ps.length = 64) {f i : Nat} (hf : f < 64) (hi : i ∈ canTo ags used f ags.length) (hk : (ps.getD (putN (ags.getD i default) f) default).known = true) :
    Has (roundP ags used ps 64).1 f ((ps.getD (putN (ags.getD i default) f) default).cost + (ags.getD i default).cost) ((ps.getD (putN (ags.getD i default) f) default).puts + 1) := by
  have h1 := roundP_le (ags := ags) (used := used) hl f (by omega)
  obtain ⟨k1, k2⟩ := h1 _ hk
  have h2 : Has (roundP ags used ps (f + 1)).1 f _ _ := relaxF_has (f := f) _ (roundP ags used ps f) (by rw [roundP_len, hl]; exact hf) hi k1
  have h3 : Has (roundP ags used ps (f + 1)).1 f ((ps.getD (putN (ags.getD i default) f) default).cost + (ags.getD i default).cost) ((ps.getD (putN (ags.getD i default) f) default).puts + 1) := ⟨h2.1, h2.2.trans (k2.add _)⟩
  have h4 := roundP_le_from (ags := ags) (used := used) hl (k := f + 1) (63 - f) (by omega)
  rw [show f + 1 + (63 - f) = 64 by omega] at h4
  exact h3.le h4
theorem iter_has (hok : Oks ags) : ∀ {f c k : Nat}, Wy ags used p f c k → f < 64 → ∀ j, k ≤ j → Has (iterP ags used p j) f c k := by
  intro f c k h
  induction h with
  | done h =>
    intro hf j _
    have h1 := iterP_le (ags := ags) (used := used) (p := p) j
    have h2 := h1 _ (by rw [initP_getD hf]; simpa using h)
    rw [initP_getD hf] at h2
    exact h2
  | @step f i c k hi _ ih =>
    intro hf j hj
    obtain ⟨j, rfl⟩ : ∃ j', j = j' + 1 := ⟨j - 1, by omega⟩
    have ha : (ags.getD i default).ok := by
      have := (canTo_mem hi).1
      rw [List.getD_eq_getElem?_getD, List.getElem?_eq_getElem this]
      exact hok.2 _ (List.getElem_mem this)
    obtain ⟨k1, k2⟩ := ih (putN_lt ha hf) j (by omega)
    have h1 := roundP_has (used := used) (iterP_len (ags := ags) (used := used) (p := p) j) hf hi k1
    unfold iterP
    exact ⟨h1.1, h1.2.trans (k2.add _)⟩
/-! The least price, and that its way is short. -/
theorem least {q : Nat → Prop} : ∀ n, q n → ∃ m, q m ∧ ∀ k, q k → m ≤ k := by
  intro n
  induction n using Nat.strongRecOn with
  | ind n ih =>
    intro hn
    by_cases h : ∃ m, m < n ∧ q m
    · obtain ⟨m, h1, h2⟩ := h
      exact ih m h1 h2
    · exact ⟨n, hn, fun k hk => Nat.le_of_not_lt fun hlt => h ⟨k, hlt, hk⟩⟩
def Opt (ags : List Ag) (used p f c k : Nat) : Prop := Wy ags used p f c k ∧ ∀ c' k', Wy ags used p f c' k' → lexle c k c' k'
theorem Opt.ex {f c k : Nat} (h : Wy ags used p f c k) : ∃ c' k', Opt ags used p f c' k' := by
  obtain ⟨c0, ⟨k0, h0⟩, h1⟩ := least (q := fun c => ∃ k, Wy ags used p f c k) c ⟨k, h⟩
  obtain ⟨k1, h2, h3⟩ := least (q := fun k => Wy ags used p f c0 k) k0 h0
  refine ⟨c0, k1, h2, fun c' k' h' => ?_⟩
  have := h1 c' ⟨k', h'⟩
  rcases Nat.lt_or_eq_of_le this with h4 | h4
  · exact Or.inl h4
  · subst h4
    exact Or.inr ⟨rfl, h3 k' h'⟩
theorem Opt.next (hok : Oks ags) {f c k : Nat} (hf : f < 64) (h : Opt ags used p f c (k + 1)) : ∃ i c', i ∈ canTo ags used f ags.length ∧ c = c' + (ags.getD i default).cost ∧ putN (ags.getD i default) f < 64 ∧ Opt ags used p (putN (ags.getD i default) f) c' k := by
  obtain ⟨h1, h2⟩ := h
  cases h1 with
  | @step _ i c' _ hi hw =>
    have ha : (ags.getD i default).ok := by
      have := (canTo_mem hi).1
      rw [List.getD_eq_getElem?_getD, List.getElem?_eq_getElem this]
      exact hok.2 _ (List.getElem_mem this)
    exact ⟨i, c', hi, rfl, putN_lt ha hf, hw, fun c'' k'' h'' => (h2 _ _ (Wy.step hi h'')).sub⟩
theorem Opt.uniq {f c k c' k' : Nat} (h : Opt ags used p f c k) (h' : Opt ags used p f c' k') : c = c' ∧ k = k' := lexle.anti (h.2 _ _ h'.1) (h'.2 _ _ h.1)
theorem countP_lt {α : Type} {a b : α → Bool} {l : List α} (hab : ∀ x, a x = true → b x = true) : (∃ x ∈ l, b x = true ∧ a x = false) → l.countP a < l.countP b := by
  induction l with
  | nil => rintro ⟨x, h, _⟩; cases h
  | cons y l ih =>
    rintro ⟨x, hx, h1, h2⟩
    have hle : l.countP a ≤ l.countP b := List.countP_mono_left (fun z _ => hab z)
    rw [List.countP_cons, List.countP_cons]
    rcases List.mem_cons.1 hx with e | e
    · subst e
      rw [h1, h2]
      simp
      omega
    · have := ih ⟨x, e, h1, h2⟩
      by_cases ha : a y = true
      · rw [ha, hab y ha]; simp; exact this
      · have : (if a y = true then 1 else 0) = 0 := if_neg ha
        rw [this]
        omega
open Classical in
theorem Opt.level (hok : Oks ags) : ∀ (k f c : Nat), f < 64 → Opt ags used p f c k → k + 1 ≤ (List.range 64).countP (fun g => decide (∃ c k', k' ≤ k ∧ Opt ags used p g c k'))
  | 0, f, c, hf, h => by
    have : 0 < (List.range 64).countP (fun g => decide (∃ c k', k' ≤ 0 ∧ Opt ags used p g c k')) :=
      List.countP_pos_iff.2 ⟨f, List.mem_range.2 hf, by simp only [decide_eq_true_eq]; exact ⟨c, 0, Nat.le_refl _, h⟩⟩
    omega
  | k + 1, f, c, hf, h => by
    obtain ⟨i, c', _, _, hg, ho⟩ := h.next hok hf
    have h1 := Opt.level hok k _ _ hg ho
    have h2 : (List.range 64).countP (fun g => decide (∃ c k', k' ≤ k ∧ Opt ags used p g c k')) < (List.range 64).countP (fun g => decide (∃ c k', k' ≤ k + 1 ∧ Opt ags used p g c k')) := by
      refine countP_lt (fun x hx => ?_) ⟨f, List.mem_range.2 hf, ?_, ?_⟩
      · simp only [decide_eq_true_eq] at hx ⊢
        obtain ⟨c, k', h1, h2⟩ := hx
        exact ⟨c, k', by omega, h2⟩
      · simp only [decide_eq_true_eq]
        exact ⟨c, k + 1, Nat.le_refl _, h⟩
      · simp only [decide_eq_false_iff_not]
        rintro ⟨c2, k2, h3, h4⟩
        have := (h4.uniq h).2
        omega
    omega
theorem Opt.short (hok : Oks ags) {k f c : Nat} (hf : f < 64) (h : Opt ags used p f c k) : k ≤ 63 := by
  have h1 := Opt.level hok k f c hf h
  have h2 := List.countP_le_length (l := List.range 64) (p := fun g => @decide (∃ c k', k' ≤ k ∧ Opt ags used p g c k') (Classical.propDecidable _))
  rw [List.length_range] at h2
  omega
theorem Min.at63 (hok : Oks ags) : Min ags used p (iterP ags used p 63) := by
  intro f hf c k h
  obtain ⟨c', k', ho⟩ := Opt.ex h
  have h1 := iter_has hok ho.1 hf 63 (ho.short hok hf)
  exact ⟨h1.1, h1.2.trans (ho.2 _ _ h)⟩
/-! A round without change. -/
theorem relax_same {f i : Nat} {s : List Pr × Bool} (h : lessP (afterP s.1 (ags.getD i default) f) (s.1.getD f default) = false) : relax ags f s i = s := by
  unfold relax
  rw [h]; simp
theorem not_less {ps : List Pr} {f i : Nat} (hok : Oks ags) (hs : Snd ags used p ps) (hm : Min ags used p ps) (hf : f < 64) (hi : i ∈ canTo ags used f ags.length) : lessP (afterP ps (ags.getD i default) f) (ps.getD f default) = false := by
  cases h : lessP (afterP ps (ags.getD i default) f) (ps.getD f default) with
  | false => rfl
  | true =>
    obtain ⟨h1, h2⟩ := lessP_true h
    have ha : (ags.getD i default).ok := by
      have := (canTo_mem hi).1
      rw [List.getD_eq_getElem?_getD, List.getElem?_eq_getElem this]
      exact hok.2 _ (List.getElem_mem this)
    have hw := Wy.step hi (hs _ (putN_lt ha hf) h1)
    obtain ⟨h3, h4⟩ := hm f hf _ _ hw
    exact absurd h4 (h2 h3).2
theorem relaxF_same {f : Nat} : ∀ (l : List Nat) (s : List Pr × Bool), (∀ i ∈ l, lessP (afterP s.1 (ags.getD i default) f) (s.1.getD f default) = false) → relaxF ags f s l = s
  | [], _, _ => rfl
  | i :: l, s, h => by
    have h1 := relaxF_same (f := f) l s (fun j hj => h j (List.mem_cons_of_mem _ hj))
    unfold relaxF at h1 ⊢
    rw [List.foldl_cons, relax_same (h i List.mem_cons_self), h1]
theorem roundP_same {ps : List Pr} (hok : Oks ags) (hs : Snd ags used p ps) (hm : Min ags used p ps) : ∀ k, k ≤ 64 → roundP ags used ps k = (ps, false)
  | 0, _ => rfl
  | k + 1, hk => by
    unfold roundP
    rw [roundP_same hok hs hm k (by omega)]
    exact relaxF_same _ _ fun i hi => not_less hok hs hm (by omega) hi
theorem round_ends (hok : Oks ags) : (roundP ags used (iterP ags used p 63) 64).2 = false := by
  rw [roundP_same hok (Snd.iter hok 63) (Min.at63 hok) 64 (Nat.le_refl _)]
theorem relaxF_flag {f : Nat} : ∀ (l : List Nat) (s : List Pr × Bool), (relaxF ags f s l).2 = false → s.2 = false ∧ relaxF ags f s l = s ∧ ∀ i ∈ l, lessP (afterP s.1 (ags.getD i default) f) (s.1.getD f default) = false
  | [], s, h => ⟨h, rfl, fun _ hi => by cases hi⟩
  | i :: l, s, h => by
    have e : relaxF ags f s (i :: l) = relaxF ags f (relax ags f s i) l := by unfold relaxF; rw [List.foldl_cons]
    rw [e] at h ⊢
    obtain ⟨h1, h2, h3⟩ := relaxF_flag l _ h
    cases hl : lessP (afterP s.1 (ags.getD i default) f) (s.1.getD f default) with
    | true =>
      unfold relax at h1
      rw [if_pos hl] at h1
      cases h1
    | false =>
      have e2 := relax_same hl
      rw [e2] at h1 h2 h3 ⊢
      refine ⟨h1, h2, fun j hj => ?_⟩
      rcases List.mem_cons.1 hj with e3 | e3
      · subst e3; exact hl
      · exact h3 j e3
theorem roundP_flag {ps : List Pr} : ∀ k, (roundP ags used ps k).2 = false → roundP ags used ps k = (ps, false) ∧ ∀ f, f < k → ∀ i ∈ canTo ags used f ags.length, lessP (afterP ps (ags.getD i default) f) (ps.getD f default) = false
  | 0, _ => ⟨rfl, fun _ h => by omega⟩
  | k + 1, h => by
    unfold roundP at h ⊢
    obtain ⟨h1, h2, h3⟩ := relaxF_flag _ _ h
    obtain ⟨h4, h5⟩ := roundP_flag k h1
    rw [h2, h4]
    refine ⟨rfl, fun f hf i hi => ?_⟩
    rcases Nat.lt_or_ge f k with h6 | h6
    · exact h5 f h6 i hi
    · obtain rfl : f = k := by omega
      rw [h4] at h3
      exact h3 i hi
theorem Min.fix (hok : Oks ags) {j : Nat} (h : (roundP ags used (iterP ags used p j) 64).2 = false) : Min ags used p (iterP ags used p j) := by
  obtain ⟨_, h1⟩ := roundP_flag 64 h
  intro f hf c k hw
  induction hw with
  | done h0 =>
    have h2 := iterP_le (ags := ags) (used := used) (p := p) j _ (by rw [initP_getD hf]; simpa using h0)
    rw [initP_getD hf] at h2
    exact h2
  | @step f i c k hi _ ih =>
    have ha : (ags.getD i default).ok := by
      have := (canTo_mem hi).1
      rw [List.getD_eq_getElem?_getD, List.getElem?_eq_getElem this]
      exact hok.2 _ (List.getElem_mem this)
    obtain ⟨k1, k2⟩ := ih (putN_lt ha hf)
    have h3 := lessP_false (h1 f hf i hi) (show (afterP _ (ags.getD i default) f).known = true from k1)
    exact ⟨h3.1, h3.2.trans (k2.add _)⟩
/-- WHAT THE PRICES ARE: those of the cheapest ways. -/
theorem fix_opt (hok : Oks ags) {j f : Nat} (h : (roundP ags used (iterP ags used p j) 64).2 = false) (hf : f < 64) (hk : ((iterP ags used p j).getD f default).known = true) :
    Opt ags used p f ((iterP ags used p j).getD f default).cost ((iterP ags used p j).getD f default).puts :=
  ⟨Snd.iter hok j f hf hk, fun _ _ hw => (Min.fix hok h f hf _ _ hw).2⟩
theorem fix_known (hok : Oks ags) {j f c k : Nat} (h : (roundP ags used (iterP ags used p j) 64).2 = false) (hf : f < 64) (hw : Wy ags used p f c k) : ((iterP ags used p j).getD f default).known = true := (Min.fix hok h f hf _ _ hw).1
end Go.Proofs.YtofkhehcnfiopaaDoor.N
namespace Go.Proofs.YtofkhehcnfiopaaDoor.N
open Go Go.RowKit Go.Proofs
set_option linter.unusedSectionVars false
variable [I : Sys]
variable {ags : List Ag} {p : Nat}
theorem can_all {f i : Nat} : i ∈ canTo ags (usedAll ags.length) f ags.length ↔ i < ags.length ∧ mayN (ags.getD i default) f = true := by
  constructor
  · intro h
    obtain ⟨h1, _, h3⟩ := canTo_mem h
    exact ⟨h1, h3⟩
  · rintro ⟨h1, h2⟩
    unfold canTo
    refine List.mem_filter.2 ⟨List.mem_range.2 h1, ?_⟩
    rw [usedAll_bit, h2]
    simpa using h1
def costN (ags : List Ag) (l : List Nat) : Nat := (l.map fun i => (ags.getD i default).cost).sum
/-- What Cheapest says. -/
structure ChS (ags : List Ag) (p f : Nat) (W : List Nat) (c E : Nat) : Prop where
  yes : E = 0 → Opt ags (usedAll ags.length) p f c W.length ∧ (∃ e, followN ags f W = some e ∧ nn e p = 0) ∧ costN ags W = c ∧ Wd ags.length W ∧ W.length ≤ 63
  no : E ≠ 0 → E = 11 ∧ c = 0 ∧ W = [] ∧ ∀ c k, ¬ Wy ags (usedAll ags.length) p f c k
theorem ChS.clear {f c E : Nat} {W : List Nat} (h : ChS ags p f W c E) (h0 : nn f p = 0) : E = 0 ∧ c = 0 ∧ W = [] := by
  have hw : Wy ags (usedAll ags.length) p f 0 0 := Wy.done h0
  by_cases hE : E = 0
  · have := (h.yes hE).1.2 _ _ hw
    unfold lexle at this
    refine ⟨hE, by omega, List.length_eq_zero_iff.1 (by omega)⟩
  · exact absurd hw ((h.no hE).2.2.2 0 0)
/-- Whatever is put first, it costs no less. -/
theorem ChS.step {f c E i c' E' : Nat} {W W' : List Nat} (h : ChS ags p f W c E) (hi : i < ags.length) (hm : mayN (ags.getD i default) f = true) (h' : ChS ags p (putN (ags.getD i default) f) W' c' E') (h0 : E' = 0) : E = 0 ∧ c ≤ c' + (ags.getD i default).cost := by
  have hw := Wy.step (can_all.2 ⟨hi, hm⟩) (h'.yes h0).1.1
  by_cases hE : E = 0
  · have := (h.yes hE).1.2 _ _ hw
    unfold lexle at this
    exact ⟨hE, by omega⟩
  · exact absurd hw ((h.no hE).2.2.2 _ _)
/-- With some agent put first, it costs just as much. -/
theorem ChS.some {f c : Nat} {W : List Nat} (hok : Oks ags) (h : ChS ags p f W c 0) (hf : f < 64) (h0 : nn f p ≠ 0) : ∃ i n m, i < ags.length ∧ mayN (ags.getD i default) f = true ∧ Opt ags (usedAll ags.length) p (putN (ags.getD i default) f) n m ∧ n + (ags.getD i default).cost = c := by
  have ho := (h.yes rfl).1
  cases hl : W.length with
  | zero =>
    rw [hl] at ho
    have hw := ho.1
    cases hw with
    | done h1 => exact absurd h1 h0
  | succ k =>
    rw [hl] at ho
    obtain ⟨i, c', hi, hc, _, hog⟩ := ho.next hok hf
    obtain ⟨h1, h2⟩ := can_all.1 hi
    exact ⟨i, c', k, h1, h2, hog, hc.symm⟩
end Go.Proofs.YtofkhehcnfiopaaDoor.N
namespace Go.Proofs.YtofkhehcnfiopaaDoor.N
open Go Go.RowKit Go.Proofs
set_option linter.unusedSectionVars false
variable [I : Sys]
/-- Whether one of the first agents, put first, makes it cost just as much. -/
def Eqv (ags : List Ag) (p m c i : Nat) (b : Bool) : Prop := b = true ↔ ∃ j, j < i ∧ mayN (ags.getD j default) m = true ∧ ∃ n k, Opt ags (usedAll ags.length) p (putN (ags.getD j default) m) n k ∧ n + (ags.getD j default).cost = c
theorem Eqv.zero {ags : List Ag} {p m c : Nat} : Eqv ags p m c 0 false := ⟨fun h => (by cases h), fun ⟨j, h, _⟩ => absurd h (by omega)⟩
theorem Eqv.skip {ags : List Ag} {p m c i : Nat} {b : Bool} (h : Eqv ags p m c i b) (hn : mayN (ags.getD i default) m = true → ∀ n k, ¬ Opt ags (usedAll ags.length) p (putN (ags.getD i default) m) n k) : Eqv ags p m c (i + 1) b := by
  refine ⟨fun hb => ?_, fun ⟨j, h1, h2, n, k, h3, h4⟩ => ?_⟩
  · obtain ⟨j, h1, h2⟩ := h.1 hb
    exact ⟨j, by omega, h2⟩
  · rcases Nat.lt_or_ge j i with h5 | h5
    · exact h.2 ⟨j, h5, h2, n, k, h3, h4⟩
    · obtain rfl : j = i := by omega
      exact absurd h3 (hn h2 n k)
end Go.Proofs.YtofkhehcnfiopaaDoor.N
namespace Go.Proofs.YtofkhehcnfiopaaDoor.N
open Go Go.RowKit Go.Proofs
set_option linter.unusedSectionVars false
variable [I : Sys]
/-! Whether a melt can be cleared, by agents of which some are used. -/
def Us (ags : List Ag) (used : Nat) (x : Ag) : Prop := ∃ i, i < ags.length ∧ used.testBit i = true ∧ ags.getD i default = x
def Clr (ags : List Ag) (used p f : Nat) : Prop := ∃ c k, Wy ags used p f c k
theorem can_mem {ags : List Ag} {used f i : Nat} : i ∈ canTo ags used f ags.length ↔ i < ags.length ∧ used.testBit i = true ∧ mayN (ags.getD i default) f = true := by
  constructor
  · exact canTo_mem
  · rintro ⟨h1, h2, h3⟩
    unfold canTo
    refine List.mem_filter.2 ⟨List.mem_range.2 h1, ?_⟩
    rw [h2, h3]; rfl
theorem Wy.mono {ags ags' : List Ag} {used used' p p' : Nat} (hu : ∀ x, Us ags used x → Us ags' used' x) (hp : ∀ f, nn f p = 0 → nn f p' = 0) : ∀ {f c k : Nat}, Wy ags used p f c k → Wy ags' used' p' f c k := by
  intro f c k h
  induction h with
  | done h => exact .done (hp _ h)
  | @step f i c k hi _ ih =>
    obtain ⟨h1, h2, h3⟩ := can_mem.1 hi
    obtain ⟨j, g1, g2, g3⟩ := hu _ ⟨i, h1, h2, rfl⟩
    rw [← g3] at ih h3 ⊢
    exact .step (can_mem.2 ⟨g1, g2, h3⟩) ih
theorem Clr.mono {ags ags' : List Ag} {used used' p p' : Nat} (hu : ∀ x, Us ags used x → Us ags' used' x) (hp : ∀ f, nn f p = 0 → nn f p' = 0) {f : Nat} (h : Clr ags used p f) : Clr ags' used' p' f := by
  obtain ⟨c, k, h⟩ := h
  exact ⟨c, k, h.mono hu hp⟩
theorem us_all {ags : List Ag} {x : Ag} : Us ags (usedAll ags.length) x ↔ x ∈ ags := by
  constructor
  · rintro ⟨i, h1, _, rfl⟩
    rw [List.getD_eq_getElem?_getD, List.getElem?_eq_getElem h1]
    exact List.getElem_mem h1
  · intro h
    obtain ⟨i, hi, rfl⟩ := List.getElem_of_mem h
    exact ⟨i, hi, by rw [usedAll_bit]; simpa using hi, by rw [List.getD_eq_getElem?_getD, List.getElem?_eq_getElem hi]; rfl⟩
/-- One melt's steps are those of a team of one. -/
theorem step_one {ags : List Ag} {used f i a b : Nat} : stepT ags used 1 (f, a, b) i = if i ∈ canTo ags used f ags.length then some (putN (ags.getD i default) f, a, b) else none := by
  unfold stepT
  have hm : mayT (ags.getD i default) (f, a, b) 1 = mayN (ags.getD i default) f := by simp [mayT, List.range_succ, tget]
  rw [hm]
  by_cases h : i < ags.length ∧ used.testBit i = true ∧ mayN (ags.getD i default) f = true
  · rw [if_pos h, if_pos (can_mem.2 h)]
    rfl
  · rw [if_neg h, if_neg (fun x => h (can_mem.1 x))]
theorem run_wy {ags : List Ag} {used p : Nat} : ∀ (v : List Nat) (f a b : Nat) (t : Tm), run (stepT ags used 1) (f, a, b) v = some t → nn t.1 p = 0 → ∃ c, Wy ags used p f c v.length
  | [], f, a, b, t, h, hc => by
    cases h
    exact ⟨0, .done hc⟩
  | i :: v, f, a, b, t, h, hc => by
    have h' : (stepT ags used 1 (f, a, b) i).bind (fun s => run (stepT ags used 1) s v) = some t := h
    rw [step_one] at h'
    split at h'
    · rename_i hi
      obtain ⟨c, hw⟩ := run_wy v _ a b t h' hc
      exact ⟨_, .step hi hw⟩
    · cases h'
theorem wy_run {ags : List Ag} {used p : Nat} {f c k : Nat} (h : Wy ags used p f c k) (a b : Nat) : ∃ v t, run (stepT ags used 1) (f, a, b) v = some t ∧ nn t.1 p = 0 ∧ v.length = k := by
  induction h with
  | @done f h => exact ⟨[], (f, a, b), rfl, h, rfl⟩
  | @step f i c k hi _ ih =>
    obtain ⟨v, t, h1, h2, h3⟩ := ih
    refine ⟨i :: v, t, ?_, h2, by rw [List.length_cons, h3]⟩
    show (stepT ags used 1 (f, a, b) i).bind (fun s => run (stepT ags used 1) s v) = some t
    rw [step_one, if_pos hi]
    exact h1
/-- What Shortest finds: fewest agents, if any. -/
theorem short_spec {ags : List Ag} {used p f : Nat} {o : Option Wk} (ho : FoundO ags used 1 (-1) (f, 0, 0) (fun t => decide (nn t.1 p = 0)) o) :
    (o.isSome = true ↔ Clr ags used p f) ∧ ((∃ c, Wy ags used p f c (wayO o).how.length) ∨ o = none) ∧ (o = none ∨ ∀ c k, Wy ags used p f c k → (wayO o).how.length ≤ k) := by
  cases o with
  | none =>
    refine ⟨⟨fun h => Bool.noConfusion h, ?_⟩, .inr rfl, .inl rfl⟩
    rintro ⟨c, k, h⟩
    obtain ⟨v, t, h1, h2, _⟩ := wy_run h 0 0
    have := ho v t h1 (.inl (by decide))
    simp [h2] at this
  | some w =>
    obtain ⟨h1, h2, h3⟩ := ho
    obtain ⟨c, hw⟩ := run_wy w.how f 0 0 w.team h2 (of_decide_eq_true h3)
    refine ⟨⟨fun _ => ⟨c, _, hw⟩, fun _ => rfl⟩, .inl ⟨c, hw⟩, .inr fun c' k' h' => ?_⟩
    obtain ⟨v, t, g1, g2, g3⟩ := wy_run h' 0 0
    have hle := h1.2.2 v t g1 (decide_eq_true g2) (.inl (by decide))
    show w.how.length ≤ k'
    rcases Nat.lt_or_ge k' w.how.length with h | h
    · have hv := run_wd _ stepT_none _ _ _ g1
      have := code_lt_of_len ags.length w.how.length w.how v rfl (by omega) hv
      omega
    · exact h
/-- A set of melts as a number. -/
def SetN (n : Nat) (q : Nat → Prop) : Prop := n < 18446744073709551616 ∧ ∀ f, f < 64 → (n.testBit f = true ↔ q f)
theorem testBit_or_one (n f g : Nat) : (n ||| 1 <<< f).testBit g = (n.testBit g || decide (f = g)) := by
  rw [Nat.testBit_or, Nat.one_shiftLeft, Nat.testBit_two_pow]
/-- The melts of a set. -/
def listN (n k : Nat) : List Nat := (List.range k).filter fun f => n.testBit f
theorem listN_succ (n k : Nat) : listN n (k + 1) = listN n k ++ (if n.testBit k = true then [k] else []) := by
  unfold listN
  rw [List.range_succ, List.filter_append]
  congr 1
  by_cases h : n.testBit k = true
  · rw [if_pos h]; simp [h]
  · rw [if_neg h]; simp [h]
theorem listN_len (n k : Nat) : (listN n k).length ≤ k := by
  unfold listN
  exact Nat.le_trans (List.length_filter_le _ _) (by simp)
theorem SetN.eq {n m : Nat} {q : Nat → Prop} (h : SetN n q) (h' : SetN m q) : n = m := by
  refine Nat.eq_of_testBit_eq fun f => ?_
  rcases Nat.lt_or_ge f 64 with hf | hf
  · have h1 := h.2 f hf
    have h2 := h'.2 f hf
    cases e1 : n.testBit f <;> cases e2 : m.testBit f <;> simp_all
  · have hp : (2 : Nat) ^ 64 ≤ 2 ^ f := Nat.pow_le_pow_right (by omega) hf
    have h1 : n < 2 ^ f := Nat.lt_of_lt_of_le h.1 hp
    have h2 : m < 2 ^ f := Nat.lt_of_lt_of_le h'.1 hp
    rw [Nat.testBit_lt_two_pow h1, Nat.testBit_lt_two_pow h2]
theorem fix_all {ags : List Ag} {used p : Nat} (hok : Oks ags) : ∃ N, N ≤ 1000 ∧ (roundP ags used (iterP ags used p N) 64).2 = false := ⟨63, by omega, round_ends hok⟩
theorem shl_u64 {f : Nat} (hf : f < 64) : IntKind.u64.wrap (1 * 2 ^ (min ((f : Int)).toNat 64)) = ((1 <<< f : Nat) : Int) := by
  rw [Int.toNat_natCast, Nat.min_eq_left (by omega), Nat.one_shiftLeft, Int.one_mul]
  have h1 : 2 ^ f < 2 ^ 64 := Nat.pow_lt_pow_right (by omega) hf
  have h2 := wrap_u64 (2 ^ f) h1
  rw [← h2]
  congr 1
theorem or_one_lt {n f : Nat} (hn : n < 18446744073709551616) (hf : f < 64) : n ||| 1 <<< f < 18446744073709551616 := by
  have h1 : 1 <<< f < 2 ^ 64 := by rw [Nat.one_shiftLeft]; exact Nat.pow_lt_pow_right (by omega) hf
  exact show _ < 2 ^ 64 from Nat.or_lt_two_pow hn h1
theorem shl_lt {f : Nat} (hf : f < 64) : 1 <<< f < 18446744073709551616 := by
  rw [Nat.one_shiftLeft]
  exact show _ < 2 ^ 64 from Nat.pow_lt_pow_right (by omega) hf
/-- Where a number stands in a list; -1: nowhere. -/
def findL (l : List Int) (n : Int) : Int := if n ∈ l then (l.findIdx (· == n) : Nat) else -1
theorem findL_neg {l : List Int} {n : Int} : findL l n < 0 ↔ n ∉ l := by
  unfold findL
  split
  · rename_i h
    constructor
    · intro h'; omega
    · intro h'; exact absurd h h'
  · rename_i h
    exact ⟨fun _ => h, fun _ => by omega⟩
theorem findL_at {l : List Int} {n : Int} {i : Nat} (hi : l[i]? = some n) (h0 : ∀ j, j < i → l[j]? ≠ some n) : findL l n = (i : Int) := by
  obtain ⟨h1, h2⟩ := List.getElem?_eq_some_iff.1 hi
  unfold findL
  rw [if_pos (List.mem_of_getElem? hi)]
  have : l.findIdx (· == n) = i := by
    rw [List.findIdx_eq h1]
    refine ⟨by rw [h2]; simp, fun j hj => ?_⟩
    have := h0 j hj
    rw [List.getElem?_eq_getElem (by omega)] at this
    simpa using this
  rw [this]
theorem findL_no {l : List Int} {n : Int} (h0 : ∀ j, j < l.length → l[j]? ≠ some n) : findL l n = -1 := by
  unfold findL
  rw [if_neg]
  intro h
  obtain ⟨i, hi, e⟩ := List.getElem_of_mem h
  exact h0 i hi (by rw [List.getElem?_eq_getElem hi, e])
end Go.Proofs.YtofkhehcnfiopaaDoor.N
