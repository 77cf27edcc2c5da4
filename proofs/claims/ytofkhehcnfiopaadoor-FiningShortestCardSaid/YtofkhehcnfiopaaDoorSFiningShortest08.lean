/- Parts of the walks of the laws on fining, those that FiningShortest needs: F15, Kit, F16, Kit2, F17, Kit3, F18, Both5, F19, TellsP, Sx5, Opt. -/
import Derived.Test.YtofkhehcnfiopaaDoorSFiningShortest07
import Derived.Test.YtofkhehcnfiopaaDoorProg
import Derived.Test.YtofkhehcnfiopaaDoorSFiningShortest03
import Derived.Test.YtofkhehcnfiopaaDoorSFiningShortest06
namespace Go.Proofs.YtofkhehcnfiopaaDoor.N
open Go Go.RowKit Go.Proofs
set_option linter.unusedSectionVars false
variable [I : Sys]
theorem F.ent63 : Enters Tryd.prog 63 := enters_of Tryd.func63 rfl (by kernel_rfl)
theorem F.ent87 : Enters Tryd.prog 87 := enters_of Tryd.func87 rfl (by kernel_rfl)
theorem AgentOf_c {C : Ctx} {fr : List (Nat × Value)} {T : List Res} {a : Act} {w : World} (hC : C.P = Tryd.prog) {hb tk st nc : Nat} {nA : Option Addr} {nums : List Int} (hB : C.w0.heap.size = C.B) (hN : RdL icell 1 C.w0 nA nums) (htk : tk ≤ 990000) (hst : st < 18446744073709551616) {few : Nat} (hf1 : 1 ≤ few) (hfew : few ≤ 6) (ha : At C fr (.blk hb (hatO nA nums.length nc (tk) (st)) :: T) a w) : Calls C.P 50 #[.pointer (some ⟨hb, 0, none⟩), .int .i64 (few : Int)] w fun e w' => ∃ (tk' st' : Nat) (x : Ag), tk' ≤ tk + 40 ∧ st' < 18446744073709551616 ∧ x.ok ∧ e = .returned (.agg [.int .i64 (x.needs : Int), .int .i64 (x.no : Int), .int .i64 (x.takes : Int), .int .i64 (x.leaves : Int), .int .i64 (x.cost : Int)].toArray) ∧ At C fr (.blk hb (hatO nA nums.length nc (tk') (st')) :: T) a w' := by
  obtain ⟨P, B, w0, N0, ds⟩ := C
  obtain rfl : P = Tryd.prog := hC
  (try dsimp only at hB)
  (try dsimp only at hN)
  refine enter_in (N := 53) [(0, .pointer (some ⟨hb, 0, none⟩)), (1, .int .i64 (few : Int))] ha Tryd.func50 rfl Tryd.ntmps50 rfl rfl ?_
  refine cod_seq ?_
  refine cod_region ?_
  refine lst_alloc rfl F.ti24 ?_
  intro b4
  refine lst_nil ?_
  refine ex_then ?_
  refine cod_seq ?_
  refine cod_ghost (G := Nat × Nat × Nat × Nat × Nat) (fun g => g.2.1 < 18446744073709551616 ∧ g.2.2.1 < 64 ∧ g.2.2.2.1 < 64 ∧ 1 ≤ g.2.2.2.2 ∧ g.2.2.2.2 ≤ 9) (fun g => [(0, .pointer (some ⟨hb, 0, none⟩)), (1, .int .i64 (few : Int)), (4, .pointer (some ⟨b4, 0, none⟩)), (5, .pointer (some ⟨g.1, 0, none⟩))]) (fun g => .blk hb (hatO nA nums.length nc (tk + 1 + few + few + 1) (g.2.1)) :: .blk g.1 (.cells [.int .i64 ((0 : Nat) : Int), .int .i64 ((0 : Nat) : Int), .int .i64 (g.2.2.1 : Int), .int .i64 (g.2.2.2.1 : Int), .int .i64 (g.2.2.2.2 : Int)].toArray 24 (0, 0)) :: .blk b4 (.cells [.int .i64 0, .int .i64 0, .int .i64 0, .int .i64 0, .int .i64 0].toArray 24 (0, 0)) :: T) ?_ ?_
  · skip
    refine any_begin [.b hb] F.follows 17 rfl [false, false, false, false, false, false, false, false, false, false, false, false, false, false, false, false, false] rfl ?_
    refine any_take (listed' := [true, false, false, false, false, false, false, false, false, false, false, false, false, false, false, false, false].toArray) 0 rfl rfl rfl (by kernel_rfl) (by kernel_rfl) (by kernel_rfl) (by repeat (first | exact List.Sublist.refl _ | exact List.nil_sublist _ | refine List.Sublist.cons_cons _ ?_ | refine List.Sublist.cons _ ?_)) (yld_move rfl) rfl ?_
    refine any_take (listed' := [true, true, false, false, false, false, false, false, false, false, false, false, false, false, false, false, false].toArray) 1 rfl rfl rfl (by kernel_rfl) (by kernel_rfl) (by kernel_rfl) (by repeat (first | exact List.Sublist.refl _ | exact List.nil_sublist _ | refine List.Sublist.cons_cons _ ?_ | refine List.Sublist.cons _ ?_)) (yld_move rfl) rfl ?_
    refine any_take (listed' := [true, true, true, false, false, false, false, false, false, false, false, false, false, false, false, false, false].toArray) 2 rfl rfl rfl (by kernel_rfl) (by kernel_rfl) (by kernel_rfl) (by repeat (first | exact List.Sublist.refl _ | exact List.nil_sublist _ | refine List.Sublist.cons_cons _ ?_ | refine List.Sublist.cons _ ?_)) (yld_int rfl rfl (fun w => bin_sub w (wrap_i64' ((few : Int) - 1) (by omega) (by omega)))) rfl ?_
    refine any_take (listed' := [true, true, true, false, false, true, false, false, false, false, false, false, false, false, false, false, false].toArray) 5 rfl rfl rfl (by kernel_rfl) (by kernel_rfl) (by kernel_rfl) (by repeat (first | exact List.Sublist.refl _ | exact List.nil_sublist _ | refine List.Sublist.cons_cons _ ?_ | refine List.Sublist.cons _ ?_)) (yld_move rfl) rfl ?_
    refine any_take (listed' := [true, true, true, false, false, true, true, false, false, false, false, false, false, false, false, false, false].toArray) 6 rfl rfl rfl (by kernel_rfl) (by kernel_rfl) (by kernel_rfl) (by repeat (first | exact List.Sublist.refl _ | exact List.nil_sublist _ | refine List.Sublist.cons_cons _ ?_ | refine List.Sublist.cons _ ?_)) (yld_move rfl) rfl ?_
    refine any_take (listed' := [true, true, true, false, false, true, true, false, true, false, false, false, false, false, false, false, false].toArray) 8 rfl rfl rfl (by kernel_rfl) (by kernel_rfl) (by kernel_rfl) (by repeat (first | exact List.Sublist.refl _ | exact List.nil_sublist _ | refine List.Sublist.cons_cons _ ?_ | refine List.Sublist.cons _ ?_)) (yld_move rfl) rfl ?_
    refine any_take (listed' := [true, true, true, false, false, true, true, false, true, true, false, false, false, false, false, false, false].toArray) 9 rfl rfl rfl (by kernel_rfl) (by kernel_rfl) (by kernel_rfl) (by repeat (first | exact List.Sublist.refl _ | exact List.nil_sublist _ | refine List.Sublist.cons_cons _ ?_ | refine List.Sublist.cons _ ?_)) (yld_move rfl) rfl ?_
    refine any_take (listed' := [true, true, true, false, false, true, true, false, true, true, false, false, true, false, false, false, false].toArray) 12 rfl rfl rfl (by kernel_rfl) (by kernel_rfl) (by kernel_rfl) (by repeat (first | exact List.Sublist.refl _ | exact List.nil_sublist _ | refine List.Sublist.cons_cons _ ?_ | refine List.Sublist.cons _ ?_)) (yld_move rfl) rfl ?_
    refine any_two (l1 := [true, true, true, true, false, true, true, false, true, true, false, false, true, false, false, false, false].toArray) (l2 := [true, true, true, false, false, true, true, false, true, true, false, false, true, false, false, true, false].toArray) 3 15 (by kernel_rfl) rfl rfl rfl rfl ?_ ?_
    · skip
      refine lst_call_pul (X := Nat × Nat) (vs := [_, _]) hb (fun y => hatO nA nums.length nc (tk + 1) (y.1)) (fun y => y.1 < 18446744073709551616 ∧ y.2 ≤ ((few : Int) - 1 : Int).toNat) (fun y => .int .i64 (y.2 : Int)) rfl rfl F.ent25 (fun a w ha => (To_c (C := ⟨Tryd.prog, B, w0, _, _⟩) rfl hB hN (tk := tk) (st := st) (n := (few : Int) - 1) (by omega) hst (by omega) ha).mono (fun e w' h => by obtain ⟨s', x, h1, h2, h3, h4⟩ := h; exact ⟨(s', x), ⟨h1, h2⟩, h3, h4⟩)) ?_
      rintro ⟨s1, t1⟩ ⟨hs1, ht1⟩
      dsimp only at hs1 ht1 ⊢
      have hlt1 : 2 ^ t1 < 64 := pow64 ht1 hf1 hfew
      refine lst_nil ?_
      refine any_next (by repeat (first | exact List.Sublist.refl _ | exact List.nil_sublist _ | refine List.Sublist.cons_cons _ ?_ | refine List.Sublist.cons _ ?_)) ?_
      refine any_take (listed' := [true, true, true, true, true, true, true, false, true, true, false, false, true, false, false, false, false].toArray) 4 rfl rfl rfl (by kernel_rfl) (by kernel_rfl) (by kernel_rfl) (by repeat (first | exact List.Sublist.refl _ | exact List.nil_sublist _ | refine List.Sublist.cons_cons _ ?_ | refine List.Sublist.cons _ ?_)) (yld_shl rfl rfl (by omega) (shl_i64 (by omega))) rfl ?_
      refine any_two (l1 := [true, true, true, true, true, true, true, true, true, true, false, false, true, false, false, false, false].toArray) (l2 := [true, true, true, true, true, true, true, false, true, true, false, false, true, false, false, true, false].toArray) 7 15 (by kernel_rfl) rfl rfl rfl rfl ?_ ?_
      · skip
        refine lst_call_pul (X := Nat × Nat) (vs := [_, _]) hb (fun y => hatO nA nums.length nc (tk + 1 + few) (y.1)) (fun y => y.1 < 18446744073709551616 ∧ y.2 < 2 ^ few) (fun y => .int .i64 (y.2 : Int)) rfl rfl F.ent63 (fun a w ha => (FaultsOf_c (C := ⟨Tryd.prog, B, w0, _, _⟩) rfl hB hN (tk := tk + 1) (st := s1) (few := few) (by omega) hs1 hfew ha).mono (fun e w' h => by obtain ⟨s', x, h1, h2, h3, h4⟩ := h; exact ⟨(s', x), ⟨h1, h2⟩, h3, h4⟩)) ?_
        rintro ⟨s2, f1⟩ ⟨hs2, hf1⟩
        dsimp only at hs2 hf1 ⊢
        have hlf1 : f1 < 64 := few64 hf1 hfew
        refine lst_nil ?_
        refine any_next (by repeat (first | exact List.Sublist.refl _ | exact List.nil_sublist _ | refine List.Sublist.cons_cons _ ?_ | refine List.Sublist.cons _ ?_)) ?_
        refine any_two (l1 := [true, true, true, true, true, true, true, true, true, true, true, false, true, false, false, false, false].toArray) (l2 := [true, true, true, true, true, true, true, true, true, true, false, false, true, false, false, true, false].toArray) 10 15 (by kernel_rfl) rfl rfl rfl rfl ?_ ?_
        · skip
          refine lst_call_pul (X := Nat × Nat) (vs := [_, _]) hb (fun y => hatO nA nums.length nc (tk + 1 + few + few) (y.1)) (fun y => y.1 < 18446744073709551616 ∧ y.2 < 2 ^ few) (fun y => .int .i64 (y.2 : Int)) rfl rfl F.ent63 (fun a w ha => (FaultsOf_c (C := ⟨Tryd.prog, B, w0, _, _⟩) rfl hB hN (tk := tk + 1 + few) (st := s2) (few := few) (by omega) hs2 hfew ha).mono (fun e w' h => by obtain ⟨s', x, h1, h2, h3, h4⟩ := h; exact ⟨(s', x), ⟨h1, h2⟩, h3, h4⟩)) ?_
          rintro ⟨s3, f2⟩ ⟨hs3, hf2⟩
          dsimp only at hs3 hf2 ⊢
          have hlf2 : f2 < 64 := few64 hf2 hfew
          refine lst_nil ?_
          refine any_next (by repeat (first | exact List.Sublist.refl _ | exact List.nil_sublist _ | refine List.Sublist.cons_cons _ ?_ | refine List.Sublist.cons _ ?_)) ?_
          refine any_take (listed' := [true, true, true, true, true, true, true, true, true, true, true, true, true, false, false, false, false].toArray) 11 rfl rfl rfl (by kernel_rfl) (by kernel_rfl) (by kernel_rfl) (by repeat (first | exact List.Sublist.refl _ | exact List.nil_sublist _ | refine List.Sublist.cons_cons _ ?_ | refine List.Sublist.cons _ ?_)) (yld_int rfl rfl (fun w => bin_and w (i64_and f1 f2 (by omega) (by omega)))) rfl ?_
          refine any_two (l1 := [true, true, true, true, true, true, true, true, true, true, true, true, true, true, false, false, false].toArray) (l2 := [true, true, true, true, true, true, true, true, true, true, true, true, true, false, false, true, false].toArray) 13 15 (by kernel_rfl) rfl rfl rfl rfl ?_ ?_
          · skip
            refine lst_call_pul (X := Nat × Nat) (vs := [_, _, _]) hb (fun y => hatO nA nums.length nc (tk + 1 + few + few + 1) (y.1)) (fun y => y.1 < 18446744073709551616 ∧ 1 ≤ y.2 ∧ y.2 ≤ 9) (fun y => .int .i64 (y.2 : Int)) rfl rfl F.ent87 (fun a w ha => (From_c (C := ⟨Tryd.prog, B, w0, _, _⟩) rfl hB hN (tk := tk + 1 + few + few) (st := s3) (lo := 1) (hi := 9) (by omega) hs3 (by omega) (by omega) ha).mono (fun e w' h => by obtain ⟨s', x, h1, h2, h3, h4, h5⟩ := h; exact ⟨(s', x), ⟨h1, h2, h3⟩, h4, h5⟩)) ?_
            rintro ⟨s4, c1⟩ ⟨hs4, hc1a, hc1b⟩
            dsimp only at hs4 hc1a hc1b ⊢
            refine lst_nil ?_
            refine any_next (by repeat (first | exact List.Sublist.refl _ | exact List.nil_sublist _ | refine List.Sublist.cons_cons _ ?_ | refine List.Sublist.cons _ ?_)) ?_
            refine any_take (listed' := [true, true, true, true, true, true, true, true, true, true, true, true, true, true, true, false, false].toArray) 14 rfl rfl rfl (by kernel_rfl) (by kernel_rfl) (by kernel_rfl) (by repeat (first | exact List.Sublist.refl _ | exact List.nil_sublist _ | refine List.Sublist.cons_cons _ ?_ | refine List.Sublist.cons _ ?_)) (yld_struct (vs := [(2, _), (3, _), (4, _)]) (l' := [_, _, _, _, _]) rfl F.ti24 F.pl24 (.cons rfl rfl (.cons rfl rfl (.cons rfl rfl (.nil _)))) rfl) rfl ?_
            refine any_one (listed' := [true, true, true, true, true, true, true, true, true, true, true, true, true, true, true, true, false].toArray) 15 (by kernel_rfl) rfl rfl ?_
            refine lst_alloc rfl F.ti24 ?_
            intro b5
            refine lst_nil ?_
            refine any_next (by repeat (first | exact List.Sublist.refl _ | exact List.nil_sublist _ | refine List.Sublist.cons_cons _ ?_ | refine List.Sublist.cons _ ?_)) ?_
            refine any_one (listed' := [true, true, true, true, true, true, true, true, true, true, true, true, true, true, true, true, true].toArray) 16 (by kernel_rfl) rfl rfl ?_
            refine lst_store rfl rfl F.ti24 rfl ?_
            refine lst_nil ?_
            refine any_next (by repeat (first | exact List.Sublist.refl _ | exact List.nil_sublist _ | refine List.Sublist.cons_cons _ ?_ | refine List.Sublist.cons _ ?_)) ?_
            refine any_done rfl (by kernel_rfl) ?_
            exact ex_ghost (b5, s4, 2 ^ t1, f1 &&& f2, c1) ⟨hs4, hlt1, and64 hlf1, hc1a, hc1b⟩ (by repeat (first | exact Sub.nil _ | refine Sub.cons rfl ?_)) (by repeat (first | exact Pck.nil _ | exact Pck.refl _ | (apply Pck.cons; focus ((repeat (first | exact Rem.here _ | apply Rem.there)); done)) | refine Pck.skip _ ?_))
          · skip
            refine lst_alloc rfl F.ti24 ?_
            intro b5
            refine lst_nil ?_
            refine any_next (by repeat (first | exact List.Sublist.refl _ | exact List.nil_sublist _ | refine List.Sublist.cons_cons _ ?_ | refine List.Sublist.cons _ ?_)) ?_
            refine any_one (listed' := [true, true, true, true, true, true, true, true, true, true, true, true, true, true, false, true, false].toArray) 13 (by kernel_rfl) rfl rfl ?_
            refine lst_call_pul (X := Nat × Nat) (vs := [_, _, _]) hb (fun y => hatO nA nums.length nc (tk + 1 + few + few + 1) (y.1)) (fun y => y.1 < 18446744073709551616 ∧ 1 ≤ y.2 ∧ y.2 ≤ 9) (fun y => .int .i64 (y.2 : Int)) rfl rfl F.ent87 (fun a w ha => (From_c (C := ⟨Tryd.prog, B, w0, _, _⟩) rfl hB hN (tk := tk + 1 + few + few) (st := s3) (lo := 1) (hi := 9) (by omega) hs3 (by omega) (by omega) ha).mono (fun e w' h => by obtain ⟨s', x, h1, h2, h3, h4, h5⟩ := h; exact ⟨(s', x), ⟨h1, h2, h3⟩, h4, h5⟩)) ?_
            rintro ⟨s4, c1⟩ ⟨hs4, hc1a, hc1b⟩
            dsimp only at hs4 hc1a hc1b ⊢
            refine lst_nil ?_
            refine any_next (by repeat (first | exact List.Sublist.refl _ | exact List.nil_sublist _ | refine List.Sublist.cons_cons _ ?_ | refine List.Sublist.cons _ ?_)) ?_
            refine any_take (listed' := [true, true, true, true, true, true, true, true, true, true, true, true, true, true, true, true, false].toArray) 14 rfl rfl rfl (by kernel_rfl) (by kernel_rfl) (by kernel_rfl) (by repeat (first | exact List.Sublist.refl _ | exact List.nil_sublist _ | refine List.Sublist.cons_cons _ ?_ | refine List.Sublist.cons _ ?_)) (yld_struct (vs := [(2, _), (3, _), (4, _)]) (l' := [_, _, _, _, _]) rfl F.ti24 F.pl24 (.cons rfl rfl (.cons rfl rfl (.cons rfl rfl (.nil _)))) rfl) rfl ?_
            refine any_one (listed' := [true, true, true, true, true, true, true, true, true, true, true, true, true, true, true, true, true].toArray) 16 (by kernel_rfl) rfl rfl ?_
            refine lst_store rfl rfl F.ti24 rfl ?_
            refine lst_nil ?_
            refine any_next (by repeat (first | exact List.Sublist.refl _ | exact List.nil_sublist _ | refine List.Sublist.cons_cons _ ?_ | refine List.Sublist.cons _ ?_)) ?_
            refine any_done rfl (by kernel_rfl) ?_
            exact ex_ghost (b5, s4, 2 ^ t1, f1 &&& f2, c1) ⟨hs4, hlt1, and64 hlf1, hc1a, hc1b⟩ (by repeat (first | exact Sub.nil _ | refine Sub.cons rfl ?_)) (by repeat (first | exact Pck.nil _ | exact Pck.refl _ | (apply Pck.cons; focus ((repeat (first | exact Rem.here _ | apply Rem.there)); done)) | refine Pck.skip _ ?_))
        · skip
          refine lst_alloc rfl F.ti24 ?_
          intro b5
          refine lst_nil ?_
          refine any_next (by repeat (first | exact List.Sublist.refl _ | exact List.nil_sublist _ | refine List.Sublist.cons_cons _ ?_ | refine List.Sublist.cons _ ?_)) ?_
          refine any_one (listed' := [true, true, true, true, true, true, true, true, true, true, true, false, true, false, false, true, false].toArray) 10 (by kernel_rfl) rfl rfl ?_
          refine lst_call_pul (X := Nat × Nat) (vs := [_, _]) hb (fun y => hatO nA nums.length nc (tk + 1 + few + few) (y.1)) (fun y => y.1 < 18446744073709551616 ∧ y.2 < 2 ^ few) (fun y => .int .i64 (y.2 : Int)) rfl rfl F.ent63 (fun a w ha => (FaultsOf_c (C := ⟨Tryd.prog, B, w0, _, _⟩) rfl hB hN (tk := tk + 1 + few) (st := s2) (few := few) (by omega) hs2 hfew ha).mono (fun e w' h => by obtain ⟨s', x, h1, h2, h3, h4⟩ := h; exact ⟨(s', x), ⟨h1, h2⟩, h3, h4⟩)) ?_
          rintro ⟨s3, f2⟩ ⟨hs3, hf2⟩
          dsimp only at hs3 hf2 ⊢
          have hlf2 : f2 < 64 := few64 hf2 hfew
          refine lst_nil ?_
          refine any_next (by repeat (first | exact List.Sublist.refl _ | exact List.nil_sublist _ | refine List.Sublist.cons_cons _ ?_ | refine List.Sublist.cons _ ?_)) ?_
          refine any_take (listed' := [true, true, true, true, true, true, true, true, true, true, true, true, true, false, false, true, false].toArray) 11 rfl rfl rfl (by kernel_rfl) (by kernel_rfl) (by kernel_rfl) (by repeat (first | exact List.Sublist.refl _ | exact List.nil_sublist _ | refine List.Sublist.cons_cons _ ?_ | refine List.Sublist.cons _ ?_)) (yld_int rfl rfl (fun w => bin_and w (i64_and f1 f2 (by omega) (by omega)))) rfl ?_
          refine any_one (listed' := [true, true, true, true, true, true, true, true, true, true, true, true, true, true, false, true, false].toArray) 13 (by kernel_rfl) rfl rfl ?_
          refine lst_call_pul (X := Nat × Nat) (vs := [_, _, _]) hb (fun y => hatO nA nums.length nc (tk + 1 + few + few + 1) (y.1)) (fun y => y.1 < 18446744073709551616 ∧ 1 ≤ y.2 ∧ y.2 ≤ 9) (fun y => .int .i64 (y.2 : Int)) rfl rfl F.ent87 (fun a w ha => (From_c (C := ⟨Tryd.prog, B, w0, _, _⟩) rfl hB hN (tk := tk + 1 + few + few) (st := s3) (lo := 1) (hi := 9) (by omega) hs3 (by omega) (by omega) ha).mono (fun e w' h => by obtain ⟨s', x, h1, h2, h3, h4, h5⟩ := h; exact ⟨(s', x), ⟨h1, h2, h3⟩, h4, h5⟩)) ?_
          rintro ⟨s4, c1⟩ ⟨hs4, hc1a, hc1b⟩
          dsimp only at hs4 hc1a hc1b ⊢
          refine lst_nil ?_
          refine any_next (by repeat (first | exact List.Sublist.refl _ | exact List.nil_sublist _ | refine List.Sublist.cons_cons _ ?_ | refine List.Sublist.cons _ ?_)) ?_
          refine any_take (listed' := [true, true, true, true, true, true, true, true, true, true, true, true, true, true, true, true, false].toArray) 14 rfl rfl rfl (by kernel_rfl) (by kernel_rfl) (by kernel_rfl) (by repeat (first | exact List.Sublist.refl _ | exact List.nil_sublist _ | refine List.Sublist.cons_cons _ ?_ | refine List.Sublist.cons _ ?_)) (yld_struct (vs := [(2, _), (3, _), (4, _)]) (l' := [_, _, _, _, _]) rfl F.ti24 F.pl24 (.cons rfl rfl (.cons rfl rfl (.cons rfl rfl (.nil _)))) rfl) rfl ?_
          refine any_one (listed' := [true, true, true, true, true, true, true, true, true, true, true, true, true, true, true, true, true].toArray) 16 (by kernel_rfl) rfl rfl ?_
          refine lst_store rfl rfl F.ti24 rfl ?_
          refine lst_nil ?_
          refine any_next (by repeat (first | exact List.Sublist.refl _ | exact List.nil_sublist _ | refine List.Sublist.cons_cons _ ?_ | refine List.Sublist.cons _ ?_)) ?_
          refine any_done rfl (by kernel_rfl) ?_
          exact ex_ghost (b5, s4, 2 ^ t1, f1 &&& f2, c1) ⟨hs4, hlt1, and64 hlf1, hc1a, hc1b⟩ (by repeat (first | exact Sub.nil _ | refine Sub.cons rfl ?_)) (by repeat (first | exact Pck.nil _ | exact Pck.refl _ | (apply Pck.cons; focus ((repeat (first | exact Rem.here _ | apply Rem.there)); done)) | refine Pck.skip _ ?_))
      · skip
        refine lst_alloc rfl F.ti24 ?_
        intro b5
        refine lst_nil ?_
        refine any_next (by repeat (first | exact List.Sublist.refl _ | exact List.nil_sublist _ | refine List.Sublist.cons_cons _ ?_ | refine List.Sublist.cons _ ?_)) ?_
        refine any_one (listed' := [true, true, true, true, true, true, true, true, true, true, false, false, true, false, false, true, false].toArray) 7 (by kernel_rfl) rfl rfl ?_
        refine lst_call_pul (X := Nat × Nat) (vs := [_, _]) hb (fun y => hatO nA nums.length nc (tk + 1 + few) (y.1)) (fun y => y.1 < 18446744073709551616 ∧ y.2 < 2 ^ few) (fun y => .int .i64 (y.2 : Int)) rfl rfl F.ent63 (fun a w ha => (FaultsOf_c (C := ⟨Tryd.prog, B, w0, _, _⟩) rfl hB hN (tk := tk + 1) (st := s1) (few := few) (by omega) hs1 hfew ha).mono (fun e w' h => by obtain ⟨s', x, h1, h2, h3, h4⟩ := h; exact ⟨(s', x), ⟨h1, h2⟩, h3, h4⟩)) ?_
        rintro ⟨s2, f1⟩ ⟨hs2, hf1⟩
        dsimp only at hs2 hf1 ⊢
        have hlf1 : f1 < 64 := few64 hf1 hfew
        refine lst_nil ?_
        refine any_next (by repeat (first | exact List.Sublist.refl _ | exact List.nil_sublist _ | refine List.Sublist.cons_cons _ ?_ | refine List.Sublist.cons _ ?_)) ?_
        refine any_one (listed' := [true, true, true, true, true, true, true, true, true, true, true, false, true, false, false, true, false].toArray) 10 (by kernel_rfl) rfl rfl ?_
        refine lst_call_pul (X := Nat × Nat) (vs := [_, _]) hb (fun y => hatO nA nums.length nc (tk + 1 + few + few) (y.1)) (fun y => y.1 < 18446744073709551616 ∧ y.2 < 2 ^ few) (fun y => .int .i64 (y.2 : Int)) rfl rfl F.ent63 (fun a w ha => (FaultsOf_c (C := ⟨Tryd.prog, B, w0, _, _⟩) rfl hB hN (tk := tk + 1 + few) (st := s2) (few := few) (by omega) hs2 hfew ha).mono (fun e w' h => by obtain ⟨s', x, h1, h2, h3, h4⟩ := h; exact ⟨(s', x), ⟨h1, h2⟩, h3, h4⟩)) ?_
        rintro ⟨s3, f2⟩ ⟨hs3, hf2⟩
        dsimp only at hs3 hf2 ⊢
        have hlf2 : f2 < 64 := few64 hf2 hfew
        refine lst_nil ?_
        refine any_next (by repeat (first | exact List.Sublist.refl _ | exact List.nil_sublist _ | refine List.Sublist.cons_cons _ ?_ | refine List.Sublist.cons _ ?_)) ?_
        refine any_take (listed' := [true, true, true, true, true, true, true, true, true, true, true, true, true, false, false, true, false].toArray) 11 rfl rfl rfl (by kernel_rfl) (by kernel_rfl) (by kernel_rfl) (by repeat (first | exact List.Sublist.refl _ | exact List.nil_sublist _ | refine List.Sublist.cons_cons _ ?_ | refine List.Sublist.cons _ ?_)) (yld_int rfl rfl (fun w => bin_and w (i64_and f1 f2 (by omega) (by omega)))) rfl ?_
        refine any_one (listed' := [true, true, true, true, true, true, true, true, true, true, true, true, true, true, false, true, false].toArray) 13 (by kernel_rfl) rfl rfl ?_
        refine lst_call_pul (X := Nat × Nat) (vs := [_, _, _]) hb (fun y => hatO nA nums.length nc (tk + 1 + few + few + 1) (y.1)) (fun y => y.1 < 18446744073709551616 ∧ 1 ≤ y.2 ∧ y.2 ≤ 9) (fun y => .int .i64 (y.2 : Int)) rfl rfl F.ent87 (fun a w ha => (From_c (C := ⟨Tryd.prog, B, w0, _, _⟩) rfl hB hN (tk := tk + 1 + few + few) (st := s3) (lo := 1) (hi := 9) (by omega) hs3 (by omega) (by omega) ha).mono (fun e w' h => by obtain ⟨s', x, h1, h2, h3, h4, h5⟩ := h; exact ⟨(s', x), ⟨h1, h2, h3⟩, h4, h5⟩)) ?_
        rintro ⟨s4, c1⟩ ⟨hs4, hc1a, hc1b⟩
        dsimp only at hs4 hc1a hc1b ⊢
        refine lst_nil ?_
        refine any_next (by repeat (first | exact List.Sublist.refl _ | exact List.nil_sublist _ | refine List.Sublist.cons_cons _ ?_ | refine List.Sublist.cons _ ?_)) ?_
        refine any_take (listed' := [true, true, true, true, true, true, true, true, true, true, true, true, true, true, true, true, false].toArray) 14 rfl rfl rfl (by kernel_rfl) (by kernel_rfl) (by kernel_rfl) (by repeat (first | exact List.Sublist.refl _ | exact List.nil_sublist _ | refine List.Sublist.cons_cons _ ?_ | refine List.Sublist.cons _ ?_)) (yld_struct (vs := [(2, _), (3, _), (4, _)]) (l' := [_, _, _, _, _]) rfl F.ti24 F.pl24 (.cons rfl rfl (.cons rfl rfl (.cons rfl rfl (.nil _)))) rfl) rfl ?_
        refine any_one (listed' := [true, true, true, true, true, true, true, true, true, true, true, true, true, true, true, true, true].toArray) 16 (by kernel_rfl) rfl rfl ?_
        refine lst_store rfl rfl F.ti24 rfl ?_
        refine lst_nil ?_
        refine any_next (by repeat (first | exact List.Sublist.refl _ | exact List.nil_sublist _ | refine List.Sublist.cons_cons _ ?_ | refine List.Sublist.cons _ ?_)) ?_
        refine any_done rfl (by kernel_rfl) ?_
        exact ex_ghost (b5, s4, 2 ^ t1, f1 &&& f2, c1) ⟨hs4, hlt1, and64 hlf1, hc1a, hc1b⟩ (by repeat (first | exact Sub.nil _ | refine Sub.cons rfl ?_)) (by repeat (first | exact Pck.nil _ | exact Pck.refl _ | (apply Pck.cons; focus ((repeat (first | exact Rem.here _ | apply Rem.there)); done)) | refine Pck.skip _ ?_))
    · skip
      refine lst_alloc rfl F.ti24 ?_
      intro b5
      refine lst_nil ?_
      refine any_next (by repeat (first | exact List.Sublist.refl _ | exact List.nil_sublist _ | refine List.Sublist.cons_cons _ ?_ | refine List.Sublist.cons _ ?_)) ?_
      refine any_one (listed' := [true, true, true, true, false, true, true, false, true, true, false, false, true, false, false, true, false].toArray) 3 (by kernel_rfl) rfl rfl ?_
      refine lst_call_pul (X := Nat × Nat) (vs := [_, _]) hb (fun y => hatO nA nums.length nc (tk + 1) (y.1)) (fun y => y.1 < 18446744073709551616 ∧ y.2 ≤ ((few : Int) - 1 : Int).toNat) (fun y => .int .i64 (y.2 : Int)) rfl rfl F.ent25 (fun a w ha => (To_c (C := ⟨Tryd.prog, B, w0, _, _⟩) rfl hB hN (tk := tk) (st := st) (n := (few : Int) - 1) (by omega) hst (by omega) ha).mono (fun e w' h => by obtain ⟨s', x, h1, h2, h3, h4⟩ := h; exact ⟨(s', x), ⟨h1, h2⟩, h3, h4⟩)) ?_
      rintro ⟨s1, t1⟩ ⟨hs1, ht1⟩
      dsimp only at hs1 ht1 ⊢
      have hlt1 : 2 ^ t1 < 64 := pow64 ht1 hf1 hfew
      refine lst_nil ?_
      refine any_next (by repeat (first | exact List.Sublist.refl _ | exact List.nil_sublist _ | refine List.Sublist.cons_cons _ ?_ | refine List.Sublist.cons _ ?_)) ?_
      refine any_take (listed' := [true, true, true, true, true, true, true, false, true, true, false, false, true, false, false, true, false].toArray) 4 rfl rfl rfl (by kernel_rfl) (by kernel_rfl) (by kernel_rfl) (by repeat (first | exact List.Sublist.refl _ | exact List.nil_sublist _ | refine List.Sublist.cons_cons _ ?_ | refine List.Sublist.cons _ ?_)) (yld_shl rfl rfl (by omega) (shl_i64 (by omega))) rfl ?_
      refine any_one (listed' := [true, true, true, true, true, true, true, true, true, true, false, false, true, false, false, true, false].toArray) 7 (by kernel_rfl) rfl rfl ?_
      refine lst_call_pul (X := Nat × Nat) (vs := [_, _]) hb (fun y => hatO nA nums.length nc (tk + 1 + few) (y.1)) (fun y => y.1 < 18446744073709551616 ∧ y.2 < 2 ^ few) (fun y => .int .i64 (y.2 : Int)) rfl rfl F.ent63 (fun a w ha => (FaultsOf_c (C := ⟨Tryd.prog, B, w0, _, _⟩) rfl hB hN (tk := tk + 1) (st := s1) (few := few) (by omega) hs1 hfew ha).mono (fun e w' h => by obtain ⟨s', x, h1, h2, h3, h4⟩ := h; exact ⟨(s', x), ⟨h1, h2⟩, h3, h4⟩)) ?_
      rintro ⟨s2, f1⟩ ⟨hs2, hf1⟩
      dsimp only at hs2 hf1 ⊢
      have hlf1 : f1 < 64 := few64 hf1 hfew
      refine lst_nil ?_
      refine any_next (by repeat (first | exact List.Sublist.refl _ | exact List.nil_sublist _ | refine List.Sublist.cons_cons _ ?_ | refine List.Sublist.cons _ ?_)) ?_
      refine any_one (listed' := [true, true, true, true, true, true, true, true, true, true, true, false, true, false, false, true, false].toArray) 10 (by kernel_rfl) rfl rfl ?_
      refine lst_call_pul (X := Nat × Nat) (vs := [_, _]) hb (fun y => hatO nA nums.length nc (tk + 1 + few + few) (y.1)) (fun y => y.1 < 18446744073709551616 ∧ y.2 < 2 ^ few) (fun y => .int .i64 (y.2 : Int)) rfl rfl F.ent63 (fun a w ha => (FaultsOf_c (C := ⟨Tryd.prog, B, w0, _, _⟩) rfl hB hN (tk := tk + 1 + few) (st := s2) (few := few) (by omega) hs2 hfew ha).mono (fun e w' h => by obtain ⟨s', x, h1, h2, h3, h4⟩ := h; exact ⟨(s', x), ⟨h1, h2⟩, h3, h4⟩)) ?_
      rintro ⟨s3, f2⟩ ⟨hs3, hf2⟩
      dsimp only at hs3 hf2 ⊢
      have hlf2 : f2 < 64 := few64 hf2 hfew
      refine lst_nil ?_
      refine any_next (by repeat (first | exact List.Sublist.refl _ | exact List.nil_sublist _ | refine List.Sublist.cons_cons _ ?_ | refine List.Sublist.cons _ ?_)) ?_
      refine any_take (listed' := [true, true, true, true, true, true, true, true, true, true, true, true, true, false, false, true, false].toArray) 11 rfl rfl rfl (by kernel_rfl) (by kernel_rfl) (by kernel_rfl) (by repeat (first | exact List.Sublist.refl _ | exact List.nil_sublist _ | refine List.Sublist.cons_cons _ ?_ | refine List.Sublist.cons _ ?_)) (yld_int rfl rfl (fun w => bin_and w (i64_and f1 f2 (by omega) (by omega)))) rfl ?_
      refine any_one (listed' := [true, true, true, true, true, true, true, true, true, true, true, true, true, true, false, true, false].toArray) 13 (by kernel_rfl) rfl rfl ?_
      refine lst_call_pul (X := Nat × Nat) (vs := [_, _, _]) hb (fun y => hatO nA nums.length nc (tk + 1 + few + few + 1) (y.1)) (fun y => y.1 < 18446744073709551616 ∧ 1 ≤ y.2 ∧ y.2 ≤ 9) (fun y => .int .i64 (y.2 : Int)) rfl rfl F.ent87 (fun a w ha => (From_c (C := ⟨Tryd.prog, B, w0, _, _⟩) rfl hB hN (tk := tk + 1 + few + few) (st := s3) (lo := 1) (hi := 9) (by omega) hs3 (by omega) (by omega) ha).mono (fun e w' h => by obtain ⟨s', x, h1, h2, h3, h4, h5⟩ := h; exact ⟨(s', x), ⟨h1, h2, h3⟩, h4, h5⟩)) ?_
      rintro ⟨s4, c1⟩ ⟨hs4, hc1a, hc1b⟩
      dsimp only at hs4 hc1a hc1b ⊢
      refine lst_nil ?_
      refine any_next (by repeat (first | exact List.Sublist.refl _ | exact List.nil_sublist _ | refine List.Sublist.cons_cons _ ?_ | refine List.Sublist.cons _ ?_)) ?_
      refine any_take (listed' := [true, true, true, true, true, true, true, true, true, true, true, true, true, true, true, true, false].toArray) 14 rfl rfl rfl (by kernel_rfl) (by kernel_rfl) (by kernel_rfl) (by repeat (first | exact List.Sublist.refl _ | exact List.nil_sublist _ | refine List.Sublist.cons_cons _ ?_ | refine List.Sublist.cons _ ?_)) (yld_struct (vs := [(2, _), (3, _), (4, _)]) (l' := [_, _, _, _, _]) rfl F.ti24 F.pl24 (.cons rfl rfl (.cons rfl rfl (.cons rfl rfl (.nil _)))) rfl) rfl ?_
      refine any_one (listed' := [true, true, true, true, true, true, true, true, true, true, true, true, true, true, true, true, true].toArray) 16 (by kernel_rfl) rfl rfl ?_
      refine lst_store rfl rfl F.ti24 rfl ?_
      refine lst_nil ?_
      refine any_next (by repeat (first | exact List.Sublist.refl _ | exact List.nil_sublist _ | refine List.Sublist.cons_cons _ ?_ | refine List.Sublist.cons _ ?_)) ?_
      refine any_done rfl (by kernel_rfl) ?_
      exact ex_ghost (b5, s4, 2 ^ t1, f1 &&& f2, c1) ⟨hs4, hlt1, and64 hlf1, hc1a, hc1b⟩ (by repeat (first | exact Sub.nil _ | refine Sub.cons rfl ?_)) (by repeat (first | exact Pck.nil _ | exact Pck.refl _ | (apply Pck.cons; focus ((repeat (first | exact Rem.here _ | apply Rem.there)); done)) | refine Pck.skip _ ?_))
  · skip
    rintro ⟨b5, s4, k0, l0, c0⟩ ⟨hs4, hk0, hl0, hc0a, hc0b⟩
    dsimp only at hs4 hk0 hl0 hc0a hc0b ⊢
    refine ex_then ?_
    refine cod_seq ?_
    refine cod_ghost (G := Nat × Nat) (fun g => g.1 < 18446744073709551616 ∧ g.2 < 64) (fun g => [(0, .pointer (some ⟨hb, 0, none⟩)), (1, .int .i64 (few : Int)), (4, .pointer (some ⟨b4, 0, none⟩)), (5, .pointer (some ⟨b5, 0, none⟩))]) (fun g => .blk hb (hatO nA nums.length nc (tk + 1 + few + few + 1 + few + few) (g.1)) :: .blk b5 (.cells [.int .i64 ((0 : Nat) : Int), .int .i64 ((0 : Nat) : Int), .int .i64 (g.2 : Int), .int .i64 (l0 : Int), .int .i64 (c0 : Int)].toArray 24 (0, 0)) :: .blk b4 (.cells [.int .i64 0, .int .i64 0, .int .i64 0, .int .i64 0, .int .i64 0].toArray 24 (0, 0)) :: T) ?_ ?_
    · skip
      refine any_begin [.b b5, .b hb] F.follows 12 rfl [false, false, false, false, false, false, false, false, false, false, false, false] rfl ?_
      refine any_take (listed' := [true, false, false, false, false, false, false, false, false, false, false, false].toArray) 0 rfl rfl rfl (by kernel_rfl) (by kernel_rfl) (by kernel_rfl) (by repeat (first | exact List.Sublist.refl _ | exact List.nil_sublist _ | refine List.Sublist.cons_cons _ ?_ | refine List.Sublist.cons _ ?_)) (yld_field_z rfl F.fi24_2 F.ti3) rfl ?_
      refine any_take (listed' := [true, false, true, false, false, false, false, false, false, false, false, false].toArray) 2 rfl rfl rfl (by kernel_rfl) (by kernel_rfl) (by kernel_rfl) (by repeat (first | exact List.Sublist.refl _ | exact List.nil_sublist _ | refine List.Sublist.cons_cons _ ?_ | refine List.Sublist.cons _ ?_)) (yld_move rfl) rfl ?_
      refine any_take (listed' := [true, false, true, true, false, false, false, false, false, false, false, false].toArray) 3 rfl rfl rfl (by kernel_rfl) (by kernel_rfl) (by kernel_rfl) (by repeat (first | exact List.Sublist.refl _ | exact List.nil_sublist _ | refine List.Sublist.cons_cons _ ?_ | refine List.Sublist.cons _ ?_)) (yld_move rfl) rfl ?_
      refine any_take (listed' := [true, false, true, true, false, true, false, false, false, false, false, false].toArray) 5 rfl rfl rfl (by kernel_rfl) (by kernel_rfl) (by kernel_rfl) (by repeat (first | exact List.Sublist.refl _ | exact List.nil_sublist _ | refine List.Sublist.cons_cons _ ?_ | refine List.Sublist.cons _ ?_)) (yld_move rfl) rfl ?_
      refine any_take (listed' := [true, false, true, true, false, true, true, false, false, false, false, false].toArray) 6 rfl rfl rfl (by kernel_rfl) (by kernel_rfl) (by kernel_rfl) (by repeat (first | exact List.Sublist.refl _ | exact List.nil_sublist _ | refine List.Sublist.cons_cons _ ?_ | refine List.Sublist.cons _ ?_)) (yld_move rfl) rfl ?_
      refine any_two (l1 := [true, true, true, true, false, true, true, false, false, false, false, false].toArray) (l2 := [true, false, true, true, true, true, true, false, false, false, false, false].toArray) 1 4 (by kernel_rfl) rfl rfl rfl rfl ?_ ?_
      · skip
        refine lst_load rfl rfl F.one3 ?_
        refine lst_nil ?_
        refine any_next (by repeat (first | exact List.Sublist.refl _ | exact List.nil_sublist _ | refine List.Sublist.cons_cons _ ?_ | refine List.Sublist.cons _ ?_)) ?_
        refine any_one (listed' := [true, true, true, true, true, true, true, false, false, false, false, false].toArray) 4 (by kernel_rfl) rfl rfl ?_
        refine lst_call_pul (X := Nat × Nat) (vs := [_, _]) hb (fun y => hatO nA nums.length nc (tk + 1 + few + few + 1 + few) (y.1)) (fun y => y.1 < 18446744073709551616 ∧ y.2 < 2 ^ few) (fun y => .int .i64 (y.2 : Int)) rfl rfl F.ent63 (fun a w ha => (FaultsOf_c (C := ⟨Tryd.prog, B, w0, _, _⟩) rfl hB hN (tk := tk + 1 + few + few + 1) (st := s4) (few := few) (by omega) hs4 hfew ha).mono (fun e w' h => by obtain ⟨s', x, h1, h2, h3, h4⟩ := h; exact ⟨(s', x), ⟨h1, h2⟩, h3, h4⟩)) ?_
        rintro ⟨s5, f3⟩ ⟨hs5, hf3⟩
        dsimp only at hs5 hf3 ⊢
        have hlf3 : f3 < 64 := few64 hf3 hfew
        refine lst_nil ?_
        refine any_next (by repeat (first | exact List.Sublist.refl _ | exact List.nil_sublist _ | refine List.Sublist.cons_cons _ ?_ | refine List.Sublist.cons _ ?_)) ?_
        refine any_one (listed' := [true, true, true, true, true, true, true, true, false, false, false, false].toArray) 7 (by kernel_rfl) rfl rfl ?_
        refine lst_call_pul (X := Nat × Nat) (vs := [_, _]) hb (fun y => hatO nA nums.length nc (tk + 1 + few + few + 1 + few + few) (y.1)) (fun y => y.1 < 18446744073709551616 ∧ y.2 < 2 ^ few) (fun y => .int .i64 (y.2 : Int)) rfl rfl F.ent63 (fun a w ha => (FaultsOf_c (C := ⟨Tryd.prog, B, w0, _, _⟩) rfl hB hN (tk := tk + 1 + few + few + 1 + few) (st := s5) (few := few) (by omega) hs5 hfew ha).mono (fun e w' h => by obtain ⟨s', x, h1, h2, h3, h4⟩ := h; exact ⟨(s', x), ⟨h1, h2⟩, h3, h4⟩)) ?_
        rintro ⟨s6, f4⟩ ⟨hs6, hf4⟩
        dsimp only at hs6 hf4 ⊢
        have hlf4 : f4 < 64 := few64 hf4 hfew
        refine lst_nil ?_
        refine any_next (by repeat (first | exact List.Sublist.refl _ | exact List.nil_sublist _ | refine List.Sublist.cons_cons _ ?_ | refine List.Sublist.cons _ ?_)) ?_
        refine any_take (listed' := [true, true, true, true, true, true, true, true, true, false, false, false].toArray) 8 rfl rfl rfl (by kernel_rfl) (by kernel_rfl) (by kernel_rfl) (by repeat (first | exact List.Sublist.refl _ | exact List.nil_sublist _ | refine List.Sublist.cons_cons _ ?_ | refine List.Sublist.cons _ ?_)) (yld_int rfl rfl (fun w => bin_and w (i64_and f3 f4 (by omega) (by omega)))) rfl ?_
        have hl34 : f3 &&& f4 < 64 := and64 hlf3
        refine any_take (listed' := [true, true, true, true, true, true, true, true, true, true, false, false].toArray) 9 rfl rfl rfl (by kernel_rfl) (by kernel_rfl) (by kernel_rfl) (by repeat (first | exact List.Sublist.refl _ | exact List.nil_sublist _ | refine List.Sublist.cons_cons _ ?_ | refine List.Sublist.cons _ ?_)) (yld_int rfl rfl (fun w => bin_or w (i64_or k0 (f3 &&& f4) (by omega) (by omega)))) rfl ?_
        refine any_take (listed' := [true, true, true, true, true, true, true, true, true, true, true, false].toArray) 10 rfl rfl rfl (by kernel_rfl) (by kernel_rfl) (by kernel_rfl) (by repeat (first | exact List.Sublist.refl _ | exact List.nil_sublist _ | refine List.Sublist.cons_cons _ ?_ | refine List.Sublist.cons _ ?_)) (yld_field_z rfl F.fi24_2 F.ti3) rfl ?_
        refine any_one (listed' := [true, true, true, true, true, true, true, true, true, true, true, true].toArray) 11 (by kernel_rfl) rfl rfl ?_
        refine lst_store rfl rfl F.ti3 rfl ?_
        refine lst_nil ?_
        refine any_next (by repeat (first | exact List.Sublist.refl _ | exact List.nil_sublist _ | refine List.Sublist.cons_cons _ ?_ | refine List.Sublist.cons _ ?_)) ?_
        refine any_done rfl (by kernel_rfl) ?_
        exact ex_ghost (s6, k0 ||| f3 &&& f4) ⟨hs6, or64 hk0 hl34⟩ (by repeat (first | exact Sub.nil _ | refine Sub.cons rfl ?_)) (by repeat (first | exact Pck.nil _ | exact Pck.refl _ | (apply Pck.cons; focus ((repeat (first | exact Rem.here _ | apply Rem.there)); done)) | refine Pck.skip _ ?_))
      · skip
        refine lst_call_pul (X := Nat × Nat) (vs := [_, _]) hb (fun y => hatO nA nums.length nc (tk + 1 + few + few + 1 + few) (y.1)) (fun y => y.1 < 18446744073709551616 ∧ y.2 < 2 ^ few) (fun y => .int .i64 (y.2 : Int)) rfl rfl F.ent63 (fun a w ha => (FaultsOf_c (C := ⟨Tryd.prog, B, w0, _, _⟩) rfl hB hN (tk := tk + 1 + few + few + 1) (st := s4) (few := few) (by omega) hs4 hfew ha).mono (fun e w' h => by obtain ⟨s', x, h1, h2, h3, h4⟩ := h; exact ⟨(s', x), ⟨h1, h2⟩, h3, h4⟩)) ?_
        rintro ⟨s5, f3⟩ ⟨hs5, hf3⟩
        dsimp only at hs5 hf3 ⊢
        have hlf3 : f3 < 64 := few64 hf3 hfew
        refine lst_nil ?_
        refine any_next (by repeat (first | exact List.Sublist.refl _ | exact List.nil_sublist _ | refine List.Sublist.cons_cons _ ?_ | refine List.Sublist.cons _ ?_)) ?_
        refine any_two (l1 := [true, true, true, true, true, true, true, false, false, false, false, false].toArray) (l2 := [true, false, true, true, true, true, true, true, false, false, false, false].toArray) 1 7 (by kernel_rfl) rfl rfl rfl rfl ?_ ?_
        · skip
          refine lst_load rfl rfl F.one3 ?_
          refine lst_nil ?_
          refine any_next (by repeat (first | exact List.Sublist.refl _ | exact List.nil_sublist _ | refine List.Sublist.cons_cons _ ?_ | refine List.Sublist.cons _ ?_)) ?_
          refine any_one (listed' := [true, true, true, true, true, true, true, true, false, false, false, false].toArray) 7 (by kernel_rfl) rfl rfl ?_
          refine lst_call_pul (X := Nat × Nat) (vs := [_, _]) hb (fun y => hatO nA nums.length nc (tk + 1 + few + few + 1 + few + few) (y.1)) (fun y => y.1 < 18446744073709551616 ∧ y.2 < 2 ^ few) (fun y => .int .i64 (y.2 : Int)) rfl rfl F.ent63 (fun a w ha => (FaultsOf_c (C := ⟨Tryd.prog, B, w0, _, _⟩) rfl hB hN (tk := tk + 1 + few + few + 1 + few) (st := s5) (few := few) (by omega) hs5 hfew ha).mono (fun e w' h => by obtain ⟨s', x, h1, h2, h3, h4⟩ := h; exact ⟨(s', x), ⟨h1, h2⟩, h3, h4⟩)) ?_
          rintro ⟨s6, f4⟩ ⟨hs6, hf4⟩
          dsimp only at hs6 hf4 ⊢
          have hlf4 : f4 < 64 := few64 hf4 hfew
          refine lst_nil ?_
          refine any_next (by repeat (first | exact List.Sublist.refl _ | exact List.nil_sublist _ | refine List.Sublist.cons_cons _ ?_ | refine List.Sublist.cons _ ?_)) ?_
          refine any_take (listed' := [true, true, true, true, true, true, true, true, true, false, false, false].toArray) 8 rfl rfl rfl (by kernel_rfl) (by kernel_rfl) (by kernel_rfl) (by repeat (first | exact List.Sublist.refl _ | exact List.nil_sublist _ | refine List.Sublist.cons_cons _ ?_ | refine List.Sublist.cons _ ?_)) (yld_int rfl rfl (fun w => bin_and w (i64_and f3 f4 (by omega) (by omega)))) rfl ?_
          have hl34 : f3 &&& f4 < 64 := and64 hlf3
          refine any_take (listed' := [true, true, true, true, true, true, true, true, true, true, false, false].toArray) 9 rfl rfl rfl (by kernel_rfl) (by kernel_rfl) (by kernel_rfl) (by repeat (first | exact List.Sublist.refl _ | exact List.nil_sublist _ | refine List.Sublist.cons_cons _ ?_ | refine List.Sublist.cons _ ?_)) (yld_int rfl rfl (fun w => bin_or w (i64_or k0 (f3 &&& f4) (by omega) (by omega)))) rfl ?_
          refine any_take (listed' := [true, true, true, true, true, true, true, true, true, true, true, false].toArray) 10 rfl rfl rfl (by kernel_rfl) (by kernel_rfl) (by kernel_rfl) (by repeat (first | exact List.Sublist.refl _ | exact List.nil_sublist _ | refine List.Sublist.cons_cons _ ?_ | refine List.Sublist.cons _ ?_)) (yld_field_z rfl F.fi24_2 F.ti3) rfl ?_
          refine any_one (listed' := [true, true, true, true, true, true, true, true, true, true, true, true].toArray) 11 (by kernel_rfl) rfl rfl ?_
          refine lst_store rfl rfl F.ti3 rfl ?_
          refine lst_nil ?_
          refine any_next (by repeat (first | exact List.Sublist.refl _ | exact List.nil_sublist _ | refine List.Sublist.cons_cons _ ?_ | refine List.Sublist.cons _ ?_)) ?_
          refine any_done rfl (by kernel_rfl) ?_
          exact ex_ghost (s6, k0 ||| f3 &&& f4) ⟨hs6, or64 hk0 hl34⟩ (by repeat (first | exact Sub.nil _ | refine Sub.cons rfl ?_)) (by repeat (first | exact Pck.nil _ | exact Pck.refl _ | (apply Pck.cons; focus ((repeat (first | exact Rem.here _ | apply Rem.there)); done)) | refine Pck.skip _ ?_))
        · skip
          refine lst_call_pul (X := Nat × Nat) (vs := [_, _]) hb (fun y => hatO nA nums.length nc (tk + 1 + few + few + 1 + few + few) (y.1)) (fun y => y.1 < 18446744073709551616 ∧ y.2 < 2 ^ few) (fun y => .int .i64 (y.2 : Int)) rfl rfl F.ent63 (fun a w ha => (FaultsOf_c (C := ⟨Tryd.prog, B, w0, _, _⟩) rfl hB hN (tk := tk + 1 + few + few + 1 + few) (st := s5) (few := few) (by omega) hs5 hfew ha).mono (fun e w' h => by obtain ⟨s', x, h1, h2, h3, h4⟩ := h; exact ⟨(s', x), ⟨h1, h2⟩, h3, h4⟩)) ?_
          rintro ⟨s6, f4⟩ ⟨hs6, hf4⟩
          dsimp only at hs6 hf4 ⊢
          have hlf4 : f4 < 64 := few64 hf4 hfew
          refine lst_nil ?_
          refine any_next (by repeat (first | exact List.Sublist.refl _ | exact List.nil_sublist _ | refine List.Sublist.cons_cons _ ?_ | refine List.Sublist.cons _ ?_)) ?_
          refine any_take (listed' := [true, false, true, true, true, true, true, true, true, false, false, false].toArray) 8 rfl rfl rfl (by kernel_rfl) (by kernel_rfl) (by kernel_rfl) (by repeat (first | exact List.Sublist.refl _ | exact List.nil_sublist _ | refine List.Sublist.cons_cons _ ?_ | refine List.Sublist.cons _ ?_)) (yld_int rfl rfl (fun w => bin_and w (i64_and f3 f4 (by omega) (by omega)))) rfl ?_
          refine any_one (listed' := [true, true, true, true, true, true, true, true, true, false, false, false].toArray) 1 (by kernel_rfl) rfl rfl ?_
          refine lst_load rfl rfl F.one3 ?_
          refine lst_nil ?_
          refine any_next (by repeat (first | exact List.Sublist.refl _ | exact List.nil_sublist _ | refine List.Sublist.cons_cons _ ?_ | refine List.Sublist.cons _ ?_)) ?_
          have hl34 : f3 &&& f4 < 64 := and64 hlf3
          refine any_take (listed' := [true, true, true, true, true, true, true, true, true, true, false, false].toArray) 9 rfl rfl rfl (by kernel_rfl) (by kernel_rfl) (by kernel_rfl) (by repeat (first | exact List.Sublist.refl _ | exact List.nil_sublist _ | refine List.Sublist.cons_cons _ ?_ | refine List.Sublist.cons _ ?_)) (yld_int rfl rfl (fun w => bin_or w (i64_or k0 (f3 &&& f4) (by omega) (by omega)))) rfl ?_
          refine any_take (listed' := [true, true, true, true, true, true, true, true, true, true, true, false].toArray) 10 rfl rfl rfl (by kernel_rfl) (by kernel_rfl) (by kernel_rfl) (by repeat (first | exact List.Sublist.refl _ | exact List.nil_sublist _ | refine List.Sublist.cons_cons _ ?_ | refine List.Sublist.cons _ ?_)) (yld_field_z rfl F.fi24_2 F.ti3) rfl ?_
          refine any_one (listed' := [true, true, true, true, true, true, true, true, true, true, true, true].toArray) 11 (by kernel_rfl) rfl rfl ?_
          refine lst_store rfl rfl F.ti3 rfl ?_
          refine lst_nil ?_
          refine any_next (by repeat (first | exact List.Sublist.refl _ | exact List.nil_sublist _ | refine List.Sublist.cons_cons _ ?_ | refine List.Sublist.cons _ ?_)) ?_
          refine any_done rfl (by kernel_rfl) ?_
          exact ex_ghost (s6, k0 ||| f3 &&& f4) ⟨hs6, or64 hk0 hl34⟩ (by repeat (first | exact Sub.nil _ | refine Sub.cons rfl ?_)) (by repeat (first | exact Pck.nil _ | exact Pck.refl _ | (apply Pck.cons; focus ((repeat (first | exact Rem.here _ | apply Rem.there)); done)) | refine Pck.skip _ ?_))
    · skip
      rintro ⟨s6, k1⟩ ⟨hs6, hk1⟩
      dsimp only at hs6 hk1 ⊢
      refine ex_then ?_
      refine cod_seq ?_
      refine cod_seq ?_
      refine cod_region ?_
      refine lst_move rfl rfl ?_
      refine lst_call_pul (X := Nat × Bool) (vs := [_, _]) hb (fun y => hatO nA nums.length nc (tk + 1 + few + few + 1 + few + few + 1) (y.1)) (fun y => y.1 < 18446744073709551616) (fun y => .bool y.2) rfl rfl F.ent93 (fun a w ha => (Seldom_c (C := ⟨Tryd.prog, B, w0, _, _⟩) rfl hB hN (tk := tk + 1 + few + few + 1 + few + few) (st := s6) (n := 3) (by omega) hs6 (by omega) (by omega) ha).mono (fun e w' h => by obtain ⟨s', b, h1, h2, h3⟩ := h; exact ⟨(s', b), h1, h2, h3⟩)) ?_
      rintro ⟨s7, bl1⟩ hs7
      dsimp only at hs7 ⊢
      refine lst_not rfl rfl ?_
      refine lst_nil ?_
      refine ex_then ?_
      refine cod_cond_bool rfl (fun hc0 => ?_) (fun hc0 => ?_)
      · skip
        refine cod_region ?_
        refine lst_move rfl rfl ?_
        refine lst_move rfl rfl ?_
        refine lst_int rfl rfl rfl (fun w => bin_sub w (wrap_i64' ((few : Int) - 1) (by omega) (by omega))) ?_
        refine lst_call_pul (X := Nat × Nat) (vs := [_, _]) hb (fun y => hatO nA nums.length nc (tk + 1 + few + few + 1 + few + few + 1 + 1) (y.1)) (fun y => y.1 < 18446744073709551616 ∧ y.2 ≤ ((few : Int) - 1 : Int).toNat) (fun y => .int .i64 (y.2 : Int)) rfl rfl F.ent25 (fun a w ha => (To_c (C := ⟨Tryd.prog, B, w0, _, _⟩) rfl hB hN (tk := tk + 1 + few + few + 1 + few + few + 1) (st := s7) (n := (few : Int) - 1) (by omega) hs7 (by omega) ha).mono (fun e w' h => by obtain ⟨s', x, h1, h2, h3, h4⟩ := h; exact ⟨(s', x), ⟨h1, h2⟩, h3, h4⟩)) ?_
        rintro ⟨s8, t2⟩ ⟨hs8, ht2⟩
        dsimp only at hs8 ht2 ⊢
        have hlt2 : 2 ^ t2 < 64 := pow64 ht2 hf1 hfew
        refine lst_shl rfl rfl rfl (by omega) (shl_i64 (by omega)) ?_
        refine lst_field_z rfl rfl F.fi24_0 F.ti3 ?_
        refine lst_store rfl rfl F.ti3 rfl ?_
        refine lst_nil ?_
        refine ex_then ?_
        refine cod_seq ?_
        refine cod_seq ?_
        refine cod_region ?_
        refine lst_move rfl rfl ?_
        refine lst_call_pul (X := Nat × Bool) (vs := [_, _]) hb (fun y => hatO nA nums.length nc (tk + 1 + few + few + 1 + few + few + 1 + 1 + 1) (y.1)) (fun y => y.1 < 18446744073709551616) (fun y => .bool y.2) rfl rfl F.ent93 (fun a w ha => (Seldom_c (C := ⟨Tryd.prog, B, w0, _, _⟩) rfl hB hN (tk := tk + 1 + few + few + 1 + few + few + 1 + 1) (st := s8) (n := 3) (by omega) hs8 (by omega) (by omega) ha).mono (fun e w' h => by obtain ⟨s', b, h1, h2, h3⟩ := h; exact ⟨(s', b), h1, h2, h3⟩)) ?_
        rintro ⟨s9, bl2⟩ hs9
        dsimp only at hs9 ⊢
        refine lst_nil ?_
        refine ex_then ?_
        refine cod_cond_bool rfl (fun hc1 => ?_) (fun hc1 => ?_)
        · skip
          refine cod_ghost (G := Nat × Nat) (fun g => g.1 < 18446744073709551616 ∧ g.2 < 64 ∧ (2 ^ t2) &&& g.2 = 0) (fun g => [(0, .pointer (some ⟨hb, 0, none⟩)), (1, .int .i64 (few : Int)), (4, .pointer (some ⟨b4, 0, none⟩)), (5, .pointer (some ⟨b5, 0, none⟩))]) (fun g => .blk hb (hatO nA nums.length nc (tk + 1 + few + few + 1 + few + few + 1 + 1 + 1 + 1) (g.1)) :: .blk b5 (.cells [.int .i64 ((2 ^ t2 : Nat) : Int), .int .i64 (g.2 : Int), .int .i64 (k1 : Int), .int .i64 (l0 : Int), .int .i64 (c0 : Int)].toArray 24 (0, 0)) :: .blk b4 (.cells [.int .i64 0, .int .i64 0, .int .i64 0, .int .i64 0, .int .i64 0].toArray 24 (0, 0)) :: T) ?_ ?_
          · skip
            refine any_begin [.b b5, .b hb] F.follows 10 rfl [false, false, false, false, false, false, false, false, false, false] rfl ?_
            refine any_take (listed' := [true, false, false, false, false, false, false, false, false, false].toArray) 0 rfl rfl rfl (by kernel_rfl) (by kernel_rfl) (by kernel_rfl) (by repeat (first | exact List.Sublist.refl _ | exact List.nil_sublist _ | refine List.Sublist.cons_cons _ ?_ | refine List.Sublist.cons _ ?_)) (yld_move rfl) rfl ?_
            refine any_take (listed' := [true, true, false, false, false, false, false, false, false, false].toArray) 1 rfl rfl rfl (by kernel_rfl) (by kernel_rfl) (by kernel_rfl) (by repeat (first | exact List.Sublist.refl _ | exact List.nil_sublist _ | refine List.Sublist.cons_cons _ ?_ | refine List.Sublist.cons _ ?_)) (yld_move rfl) rfl ?_
            refine any_take (listed' := [true, true, true, false, false, false, false, false, false, false].toArray) 2 rfl rfl rfl (by kernel_rfl) (by kernel_rfl) (by kernel_rfl) (by repeat (first | exact List.Sublist.refl _ | exact List.nil_sublist _ | refine List.Sublist.cons_cons _ ?_ | refine List.Sublist.cons _ ?_)) (yld_int rfl rfl (fun w => bin_sub w (wrap_i64' ((few : Int) - 1) (by omega) (by omega)))) rfl ?_
            refine any_take (listed' := [true, true, true, false, false, true, false, false, false, false].toArray) 5 rfl rfl rfl (by kernel_rfl) (by kernel_rfl) (by kernel_rfl) (by repeat (first | exact List.Sublist.refl _ | exact List.nil_sublist _ | refine List.Sublist.cons_cons _ ?_ | refine List.Sublist.cons _ ?_)) (yld_field_z rfl F.fi24_0 F.ti3) rfl ?_
            refine any_two (l1 := [true, true, true, true, false, true, false, false, false, false].toArray) (l2 := [true, true, true, false, false, true, true, false, false, false].toArray) 3 6 (by kernel_rfl) rfl rfl rfl rfl ?_ ?_
            · skip
              refine lst_call_pul (X := Nat × Nat) (vs := [_, _]) hb (fun y => hatO nA nums.length nc (tk + 1 + few + few + 1 + few + few + 1 + 1 + 1 + 1) (y.1)) (fun y => y.1 < 18446744073709551616 ∧ y.2 ≤ ((few : Int) - 1 : Int).toNat) (fun y => .int .i64 (y.2 : Int)) rfl rfl F.ent25 (fun a w ha => (To_c (C := ⟨Tryd.prog, B, w0, _, _⟩) rfl hB hN (tk := tk + 1 + few + few + 1 + few + few + 1 + 1 + 1) (st := s9) (n := (few : Int) - 1) (by omega) hs9 (by omega) ha).mono (fun e w' h => by obtain ⟨s', x, h1, h2, h3, h4⟩ := h; exact ⟨(s', x), ⟨h1, h2⟩, h3, h4⟩)) ?_
              rintro ⟨s10, t3⟩ ⟨hs10, ht3⟩
              dsimp only at hs10 ht3 ⊢
              have hlt3 : 2 ^ t3 < 64 := pow64 ht3 hf1 hfew
              refine lst_nil ?_
              refine any_next (by repeat (first | exact List.Sublist.refl _ | exact List.nil_sublist _ | refine List.Sublist.cons_cons _ ?_ | refine List.Sublist.cons _ ?_)) ?_
              refine any_take (listed' := [true, true, true, true, true, true, false, false, false, false].toArray) 4 rfl rfl rfl (by kernel_rfl) (by kernel_rfl) (by kernel_rfl) (by repeat (first | exact List.Sublist.refl _ | exact List.nil_sublist _ | refine List.Sublist.cons_cons _ ?_ | refine List.Sublist.cons _ ?_)) (yld_shl rfl rfl (by omega) (shl_i64 (by omega))) rfl ?_
              refine any_one (listed' := [true, true, true, true, true, true, true, false, false, false].toArray) 6 (by kernel_rfl) rfl rfl ?_
              refine lst_load rfl rfl F.one3 ?_
              refine lst_nil ?_
              refine any_next (by repeat (first | exact List.Sublist.refl _ | exact List.nil_sublist _ | refine List.Sublist.cons_cons _ ?_ | refine List.Sublist.cons _ ?_)) ?_
              refine any_take (listed' := [true, true, true, true, true, true, true, true, false, false].toArray) 7 rfl rfl rfl (by kernel_rfl) (by kernel_rfl) (by kernel_rfl) (by repeat (first | exact List.Sublist.refl _ | exact List.nil_sublist _ | refine List.Sublist.cons_cons _ ?_ | refine List.Sublist.cons _ ?_)) (yld_int rfl rfl (fun w => bin_andNot w (i64_andNot (2 ^ t3) (2 ^ t2) (by omega) (by omega)))) rfl ?_
              refine any_take (listed' := [true, true, true, true, true, true, true, true, true, false].toArray) 8 rfl rfl rfl (by kernel_rfl) (by kernel_rfl) (by kernel_rfl) (by repeat (first | exact List.Sublist.refl _ | exact List.nil_sublist _ | refine List.Sublist.cons_cons _ ?_ | refine List.Sublist.cons _ ?_)) (yld_field_z rfl F.fi24_1 F.ti3) rfl ?_
              refine any_one (listed' := [true, true, true, true, true, true, true, true, true, true].toArray) 9 (by kernel_rfl) rfl rfl ?_
              refine lst_store rfl rfl F.ti3 rfl ?_
              refine lst_nil ?_
              refine any_next (by repeat (first | exact List.Sublist.refl _ | exact List.nil_sublist _ | refine List.Sublist.cons_cons _ ?_ | refine List.Sublist.cons _ ?_)) ?_
              refine any_done rfl (by kernel_rfl) ?_
              exact ex_ghost (s10, nn (2 ^ t3) (2 ^ t2)) ⟨hs10, nn64 hlt3, nn_apart _ _⟩ (by repeat (first | exact Sub.nil _ | refine Sub.cons rfl ?_)) (by repeat (first | exact Pck.nil _ | exact Pck.refl _ | (apply Pck.cons; focus ((repeat (first | exact Rem.here _ | apply Rem.there)); done)) | refine Pck.skip _ ?_))
            · skip
              refine lst_load rfl rfl F.one3 ?_
              refine lst_nil ?_
              refine any_next (by repeat (first | exact List.Sublist.refl _ | exact List.nil_sublist _ | refine List.Sublist.cons_cons _ ?_ | refine List.Sublist.cons _ ?_)) ?_
              refine any_one (listed' := [true, true, true, true, false, true, true, false, false, false].toArray) 3 (by kernel_rfl) rfl rfl ?_
              refine lst_call_pul (X := Nat × Nat) (vs := [_, _]) hb (fun y => hatO nA nums.length nc (tk + 1 + few + few + 1 + few + few + 1 + 1 + 1 + 1) (y.1)) (fun y => y.1 < 18446744073709551616 ∧ y.2 ≤ ((few : Int) - 1 : Int).toNat) (fun y => .int .i64 (y.2 : Int)) rfl rfl F.ent25 (fun a w ha => (To_c (C := ⟨Tryd.prog, B, w0, _, _⟩) rfl hB hN (tk := tk + 1 + few + few + 1 + few + few + 1 + 1 + 1) (st := s9) (n := (few : Int) - 1) (by omega) hs9 (by omega) ha).mono (fun e w' h => by obtain ⟨s', x, h1, h2, h3, h4⟩ := h; exact ⟨(s', x), ⟨h1, h2⟩, h3, h4⟩)) ?_
              rintro ⟨s10, t3⟩ ⟨hs10, ht3⟩
              dsimp only at hs10 ht3 ⊢
              have hlt3 : 2 ^ t3 < 64 := pow64 ht3 hf1 hfew
              refine lst_nil ?_
              refine any_next (by repeat (first | exact List.Sublist.refl _ | exact List.nil_sublist _ | refine List.Sublist.cons_cons _ ?_ | refine List.Sublist.cons _ ?_)) ?_
              refine any_take (listed' := [true, true, true, true, true, true, true, false, false, false].toArray) 4 rfl rfl rfl (by kernel_rfl) (by kernel_rfl) (by kernel_rfl) (by repeat (first | exact List.Sublist.refl _ | exact List.nil_sublist _ | refine List.Sublist.cons_cons _ ?_ | refine List.Sublist.cons _ ?_)) (yld_shl rfl rfl (by omega) (shl_i64 (by omega))) rfl ?_
              refine any_take (listed' := [true, true, true, true, true, true, true, true, false, false].toArray) 7 rfl rfl rfl (by kernel_rfl) (by kernel_rfl) (by kernel_rfl) (by repeat (first | exact List.Sublist.refl _ | exact List.nil_sublist _ | refine List.Sublist.cons_cons _ ?_ | refine List.Sublist.cons _ ?_)) (yld_int rfl rfl (fun w => bin_andNot w (i64_andNot (2 ^ t3) (2 ^ t2) (by omega) (by omega)))) rfl ?_
              refine any_take (listed' := [true, true, true, true, true, true, true, true, true, false].toArray) 8 rfl rfl rfl (by kernel_rfl) (by kernel_rfl) (by kernel_rfl) (by repeat (first | exact List.Sublist.refl _ | exact List.nil_sublist _ | refine List.Sublist.cons_cons _ ?_ | refine List.Sublist.cons _ ?_)) (yld_field_z rfl F.fi24_1 F.ti3) rfl ?_
              refine any_one (listed' := [true, true, true, true, true, true, true, true, true, true].toArray) 9 (by kernel_rfl) rfl rfl ?_
              refine lst_store rfl rfl F.ti3 rfl ?_
              refine lst_nil ?_
              refine any_next (by repeat (first | exact List.Sublist.refl _ | exact List.nil_sublist _ | refine List.Sublist.cons_cons _ ?_ | refine List.Sublist.cons _ ?_)) ?_
              refine any_done rfl (by kernel_rfl) ?_
              exact ex_ghost (s10, nn (2 ^ t3) (2 ^ t2)) ⟨hs10, nn64 hlt3, nn_apart _ _⟩ (by repeat (first | exact Sub.nil _ | refine Sub.cons rfl ?_)) (by repeat (first | exact Pck.nil _ | exact Pck.refl _ | (apply Pck.cons; focus ((repeat (first | exact Rem.here _ | apply Rem.there)); done)) | refine Pck.skip _ ?_))
          · skip
            rintro ⟨s10, q1⟩ ⟨hs10, hq1, hq2⟩
            dsimp only at hs10 hq1 hq2 ⊢
            refine ex_then ?_
            refine cod_seq ?_
            refine cod_region ?_
            refine lst_loadN rfl rfl F.agg24 F.ti24 ?_
            refine lst_store rfl rfl F.ti24 rfl ?_
            refine lst_nil ?_
            refine ex_then ?_
            refine cod_ret ?_
            exact ex_ret rfl (fun a w ha => by exact res_cellN (ha := ha) rfl rfl F.agg24 F.ti24 rfl) (fun _ _ ha' => ⟨tk + 1 + few + few + 1 + few + few + 1 + 1 + 1 + 1, s10, ⟨2 ^ t2, q1, k1, l0, c0⟩, by omega, hs10, ⟨hlt2, hq1, hk1, hl0, hq2, ⟨hc0a, hc0b⟩⟩, rfl, ha.back (ha'.pck (by repeat (first | exact Pck.nil _ | exact Pck.refl _ | (apply Pck.cons; focus ((repeat (first | exact Rem.here _ | apply Rem.there)); done)) | refine Pck.skip _ ?_)))⟩)
        · skip
          refine cod_skip ?_
          refine ex_then ?_
          refine cod_seq ?_
          refine cod_region ?_
          refine lst_loadN rfl rfl F.agg24 F.ti24 ?_
          refine lst_store rfl rfl F.ti24 rfl ?_
          refine lst_nil ?_
          refine ex_then ?_
          refine cod_ret ?_
          exact ex_ret rfl (fun a w ha => by exact res_cellN (ha := ha) rfl rfl F.agg24 F.ti24 rfl) (fun _ _ ha' => ⟨tk + 1 + few + few + 1 + few + few + 1 + 1 + 1, s9, ⟨2 ^ t2, 0, k1, l0, c0⟩, by omega, hs9, ⟨hlt2, (show (0 : Nat) < 64 by omega), hk1, hl0, Nat.and_zero _, ⟨hc0a, hc0b⟩⟩, rfl, ha.back (ha'.pck (by repeat (first | exact Pck.nil _ | exact Pck.refl _ | (apply Pck.cons; focus ((repeat (first | exact Rem.here _ | apply Rem.there)); done)) | refine Pck.skip _ ?_)))⟩)
      · skip
        refine cod_skip ?_
        refine ex_then ?_
        refine cod_seq ?_
        refine cod_seq ?_
        refine cod_region ?_
        refine lst_move rfl rfl ?_
        refine lst_call_pul (X := Nat × Bool) (vs := [_, _]) hb (fun y => hatO nA nums.length nc (tk + 1 + few + few + 1 + few + few + 1 + 1) (y.1)) (fun y => y.1 < 18446744073709551616) (fun y => .bool y.2) rfl rfl F.ent93 (fun a w ha => (Seldom_c (C := ⟨Tryd.prog, B, w0, _, _⟩) rfl hB hN (tk := tk + 1 + few + few + 1 + few + few + 1) (st := s7) (n := 3) (by omega) hs7 (by omega) (by omega) ha).mono (fun e w' h => by obtain ⟨s', b, h1, h2, h3⟩ := h; exact ⟨(s', b), h1, h2, h3⟩)) ?_
        rintro ⟨s9, bl2⟩ hs9
        dsimp only at hs9 ⊢
        refine lst_nil ?_
        refine ex_then ?_
        refine cod_cond_bool rfl (fun hc1 => ?_) (fun hc1 => ?_)
        · skip
          refine cod_ghost (G := Nat × Nat) (fun g => g.1 < 18446744073709551616 ∧ g.2 < 64 ∧ 0 &&& g.2 = 0) (fun g => [(0, .pointer (some ⟨hb, 0, none⟩)), (1, .int .i64 (few : Int)), (4, .pointer (some ⟨b4, 0, none⟩)), (5, .pointer (some ⟨b5, 0, none⟩))]) (fun g => .blk hb (hatO nA nums.length nc (tk + 1 + few + few + 1 + few + few + 1 + 1 + 1) (g.1)) :: .blk b5 (.cells [.int .i64 ((0 : Nat) : Int), .int .i64 (g.2 : Int), .int .i64 (k1 : Int), .int .i64 (l0 : Int), .int .i64 (c0 : Int)].toArray 24 (0, 0)) :: .blk b4 (.cells [.int .i64 0, .int .i64 0, .int .i64 0, .int .i64 0, .int .i64 0].toArray 24 (0, 0)) :: T) ?_ ?_
          · skip
            refine any_begin [.b b5, .b hb] F.follows 10 rfl [false, false, false, false, false, false, false, false, false, false] rfl ?_
            refine any_take (listed' := [true, false, false, false, false, false, false, false, false, false].toArray) 0 rfl rfl rfl (by kernel_rfl) (by kernel_rfl) (by kernel_rfl) (by repeat (first | exact List.Sublist.refl _ | exact List.nil_sublist _ | refine List.Sublist.cons_cons _ ?_ | refine List.Sublist.cons _ ?_)) (yld_move rfl) rfl ?_
            refine any_take (listed' := [true, true, false, false, false, false, false, false, false, false].toArray) 1 rfl rfl rfl (by kernel_rfl) (by kernel_rfl) (by kernel_rfl) (by repeat (first | exact List.Sublist.refl _ | exact List.nil_sublist _ | refine List.Sublist.cons_cons _ ?_ | refine List.Sublist.cons _ ?_)) (yld_move rfl) rfl ?_
            refine any_take (listed' := [true, true, true, false, false, false, false, false, false, false].toArray) 2 rfl rfl rfl (by kernel_rfl) (by kernel_rfl) (by kernel_rfl) (by repeat (first | exact List.Sublist.refl _ | exact List.nil_sublist _ | refine List.Sublist.cons_cons _ ?_ | refine List.Sublist.cons _ ?_)) (yld_int rfl rfl (fun w => bin_sub w (wrap_i64' ((few : Int) - 1) (by omega) (by omega)))) rfl ?_
            refine any_take (listed' := [true, true, true, false, false, true, false, false, false, false].toArray) 5 rfl rfl rfl (by kernel_rfl) (by kernel_rfl) (by kernel_rfl) (by repeat (first | exact List.Sublist.refl _ | exact List.nil_sublist _ | refine List.Sublist.cons_cons _ ?_ | refine List.Sublist.cons _ ?_)) (yld_field_z rfl F.fi24_0 F.ti3) rfl ?_
            refine any_two (l1 := [true, true, true, true, false, true, false, false, false, false].toArray) (l2 := [true, true, true, false, false, true, true, false, false, false].toArray) 3 6 (by kernel_rfl) rfl rfl rfl rfl ?_ ?_
            · skip
              refine lst_call_pul (X := Nat × Nat) (vs := [_, _]) hb (fun y => hatO nA nums.length nc (tk + 1 + few + few + 1 + few + few + 1 + 1 + 1) (y.1)) (fun y => y.1 < 18446744073709551616 ∧ y.2 ≤ ((few : Int) - 1 : Int).toNat) (fun y => .int .i64 (y.2 : Int)) rfl rfl F.ent25 (fun a w ha => (To_c (C := ⟨Tryd.prog, B, w0, _, _⟩) rfl hB hN (tk := tk + 1 + few + few + 1 + few + few + 1 + 1) (st := s9) (n := (few : Int) - 1) (by omega) hs9 (by omega) ha).mono (fun e w' h => by obtain ⟨s', x, h1, h2, h3, h4⟩ := h; exact ⟨(s', x), ⟨h1, h2⟩, h3, h4⟩)) ?_
              rintro ⟨s10, t3⟩ ⟨hs10, ht3⟩
              dsimp only at hs10 ht3 ⊢
              have hlt3 : 2 ^ t3 < 64 := pow64 ht3 hf1 hfew
              refine lst_nil ?_
              refine any_next (by repeat (first | exact List.Sublist.refl _ | exact List.nil_sublist _ | refine List.Sublist.cons_cons _ ?_ | refine List.Sublist.cons _ ?_)) ?_
              refine any_take (listed' := [true, true, true, true, true, true, false, false, false, false].toArray) 4 rfl rfl rfl (by kernel_rfl) (by kernel_rfl) (by kernel_rfl) (by repeat (first | exact List.Sublist.refl _ | exact List.nil_sublist _ | refine List.Sublist.cons_cons _ ?_ | refine List.Sublist.cons _ ?_)) (yld_shl rfl rfl (by omega) (shl_i64 (by omega))) rfl ?_
              refine any_one (listed' := [true, true, true, true, true, true, true, false, false, false].toArray) 6 (by kernel_rfl) rfl rfl ?_
              refine lst_load rfl rfl F.one3 ?_
              refine lst_nil ?_
              refine any_next (by repeat (first | exact List.Sublist.refl _ | exact List.nil_sublist _ | refine List.Sublist.cons_cons _ ?_ | refine List.Sublist.cons _ ?_)) ?_
              refine any_take (listed' := [true, true, true, true, true, true, true, true, false, false].toArray) 7 rfl rfl rfl (by kernel_rfl) (by kernel_rfl) (by kernel_rfl) (by repeat (first | exact List.Sublist.refl _ | exact List.nil_sublist _ | refine List.Sublist.cons_cons _ ?_ | refine List.Sublist.cons _ ?_)) (yld_int rfl rfl (fun w => bin_andNot w (i64_andNot (2 ^ t3) 0 (by omega) (by omega)))) rfl ?_
              refine any_take (listed' := [true, true, true, true, true, true, true, true, true, false].toArray) 8 rfl rfl rfl (by kernel_rfl) (by kernel_rfl) (by kernel_rfl) (by repeat (first | exact List.Sublist.refl _ | exact List.nil_sublist _ | refine List.Sublist.cons_cons _ ?_ | refine List.Sublist.cons _ ?_)) (yld_field_z rfl F.fi24_1 F.ti3) rfl ?_
              refine any_one (listed' := [true, true, true, true, true, true, true, true, true, true].toArray) 9 (by kernel_rfl) rfl rfl ?_
              refine lst_store rfl rfl F.ti3 rfl ?_
              refine lst_nil ?_
              refine any_next (by repeat (first | exact List.Sublist.refl _ | exact List.nil_sublist _ | refine List.Sublist.cons_cons _ ?_ | refine List.Sublist.cons _ ?_)) ?_
              refine any_done rfl (by kernel_rfl) ?_
              exact ex_ghost (s10, nn (2 ^ t3) 0) ⟨hs10, nn64 hlt3, nn_apart _ _⟩ (by repeat (first | exact Sub.nil _ | refine Sub.cons rfl ?_)) (by repeat (first | exact Pck.nil _ | exact Pck.refl _ | (apply Pck.cons; focus ((repeat (first | exact Rem.here _ | apply Rem.there)); done)) | refine Pck.skip _ ?_))
            · skip
              refine lst_load rfl rfl F.one3 ?_
              refine lst_nil ?_
              refine any_next (by repeat (first | exact List.Sublist.refl _ | exact List.nil_sublist _ | refine List.Sublist.cons_cons _ ?_ | refine List.Sublist.cons _ ?_)) ?_
              refine any_one (listed' := [true, true, true, true, false, true, true, false, false, false].toArray) 3 (by kernel_rfl) rfl rfl ?_
              refine lst_call_pul (X := Nat × Nat) (vs := [_, _]) hb (fun y => hatO nA nums.length nc (tk + 1 + few + few + 1 + few + few + 1 + 1 + 1) (y.1)) (fun y => y.1 < 18446744073709551616 ∧ y.2 ≤ ((few : Int) - 1 : Int).toNat) (fun y => .int .i64 (y.2 : Int)) rfl rfl F.ent25 (fun a w ha => (To_c (C := ⟨Tryd.prog, B, w0, _, _⟩) rfl hB hN (tk := tk + 1 + few + few + 1 + few + few + 1 + 1) (st := s9) (n := (few : Int) - 1) (by omega) hs9 (by omega) ha).mono (fun e w' h => by obtain ⟨s', x, h1, h2, h3, h4⟩ := h; exact ⟨(s', x), ⟨h1, h2⟩, h3, h4⟩)) ?_
              rintro ⟨s10, t3⟩ ⟨hs10, ht3⟩
              dsimp only at hs10 ht3 ⊢
              have hlt3 : 2 ^ t3 < 64 := pow64 ht3 hf1 hfew
              refine lst_nil ?_
              refine any_next (by repeat (first | exact List.Sublist.refl _ | exact List.nil_sublist _ | refine List.Sublist.cons_cons _ ?_ | refine List.Sublist.cons _ ?_)) ?_
              refine any_take (listed' := [true, true, true, true, true, true, true, false, false, false].toArray) 4 rfl rfl rfl (by kernel_rfl) (by kernel_rfl) (by kernel_rfl) (by repeat (first | exact List.Sublist.refl _ | exact List.nil_sublist _ | refine List.Sublist.cons_cons _ ?_ | refine List.Sublist.cons _ ?_)) (yld_shl rfl rfl (by omega) (shl_i64 (by omega))) rfl ?_
              refine any_take (listed' := [true, true, true, true, true, true, true, true, false, false].toArray) 7 rfl rfl rfl (by kernel_rfl) (by kernel_rfl) (by kernel_rfl) (by repeat (first | exact List.Sublist.refl _ | exact List.nil_sublist _ | refine List.Sublist.cons_cons _ ?_ | refine List.Sublist.cons _ ?_)) (yld_int rfl rfl (fun w => bin_andNot w (i64_andNot (2 ^ t3) 0 (by omega) (by omega)))) rfl ?_
              refine any_take (listed' := [true, true, true, true, true, true, true, true, true, false].toArray) 8 rfl rfl rfl (by kernel_rfl) (by kernel_rfl) (by kernel_rfl) (by repeat (first | exact List.Sublist.refl _ | exact List.nil_sublist _ | refine List.Sublist.cons_cons _ ?_ | refine List.Sublist.cons _ ?_)) (yld_field_z rfl F.fi24_1 F.ti3) rfl ?_
              refine any_one (listed' := [true, true, true, true, true, true, true, true, true, true].toArray) 9 (by kernel_rfl) rfl rfl ?_
              refine lst_store rfl rfl F.ti3 rfl ?_
              refine lst_nil ?_
              refine any_next (by repeat (first | exact List.Sublist.refl _ | exact List.nil_sublist _ | refine List.Sublist.cons_cons _ ?_ | refine List.Sublist.cons _ ?_)) ?_
              refine any_done rfl (by kernel_rfl) ?_
              exact ex_ghost (s10, nn (2 ^ t3) 0) ⟨hs10, nn64 hlt3, nn_apart _ _⟩ (by repeat (first | exact Sub.nil _ | refine Sub.cons rfl ?_)) (by repeat (first | exact Pck.nil _ | exact Pck.refl _ | (apply Pck.cons; focus ((repeat (first | exact Rem.here _ | apply Rem.there)); done)) | refine Pck.skip _ ?_))
          · skip
            rintro ⟨s10, q1⟩ ⟨hs10, hq1, hq2⟩
            dsimp only at hs10 hq1 hq2 ⊢
            refine ex_then ?_
            refine cod_seq ?_
            refine cod_region ?_
            refine lst_loadN rfl rfl F.agg24 F.ti24 ?_
            refine lst_store rfl rfl F.ti24 rfl ?_
            refine lst_nil ?_
            refine ex_then ?_
            refine cod_ret ?_
            exact ex_ret rfl (fun a w ha => by exact res_cellN (ha := ha) rfl rfl F.agg24 F.ti24 rfl) (fun _ _ ha' => ⟨tk + 1 + few + few + 1 + few + few + 1 + 1 + 1, s10, ⟨0, q1, k1, l0, c0⟩, by omega, hs10, ⟨(show (0 : Nat) < 64 by omega), hq1, hk1, hl0, hq2, ⟨hc0a, hc0b⟩⟩, rfl, ha.back (ha'.pck (by repeat (first | exact Pck.nil _ | exact Pck.refl _ | (apply Pck.cons; focus ((repeat (first | exact Rem.here _ | apply Rem.there)); done)) | refine Pck.skip _ ?_)))⟩)
        · skip
          refine cod_skip ?_
          refine ex_then ?_
          refine cod_seq ?_
          refine cod_region ?_
          refine lst_loadN rfl rfl F.agg24 F.ti24 ?_
          refine lst_store rfl rfl F.ti24 rfl ?_
          refine lst_nil ?_
          refine ex_then ?_
          refine cod_ret ?_
          exact ex_ret rfl (fun a w ha => by exact res_cellN (ha := ha) rfl rfl F.agg24 F.ti24 rfl) (fun _ _ ha' => ⟨tk + 1 + few + few + 1 + few + few + 1 + 1, s9, ⟨0, 0, k1, l0, c0⟩, by omega, hs9, ⟨(show (0 : Nat) < 64 by omega), (show (0 : Nat) < 64 by omega), hk1, hl0, Nat.and_zero _, ⟨hc0a, hc0b⟩⟩, rfl, ha.back (ha'.pck (by repeat (first | exact Pck.nil _ | exact Pck.refl _ | (apply Pck.cons; focus ((repeat (first | exact Rem.here _ | apply Rem.there)); done)) | refine Pck.skip _ ?_)))⟩)

end Go.Proofs.YtofkhehcnfiopaaDoor.N
namespace Go.Proofs.YtofkhehcnfiopaaDoor.N
open Go Go.RowKit Go.Proofs
set_option linter.unusedSectionVars false
variable [I : Sys]
theorem sub_pow {few : Nat} (h : few ≤ 6) : IntKind.i64.wrap (((2 ^ few : Nat) : Int) - 1) = ((2 ^ few - 1 : Nat) : Int) := by
  have h1 : 1 ≤ 2 ^ few := Nat.one_le_two_pow
  have h2 : 2 ^ few ≤ 2 ^ 6 := Nat.pow_le_pow_right (by omega) h
  generalize (2 : Nat) ^ few = q at *
  rw [wrap_i64' _ (by omega) (by omega)]
  omega
/-- What a melt is behind a way; none if it is no way. -/
def followN (ags : List Ag) : Nat → List Nat → Option Nat
  | f, [] => some f
  | f, i :: l => if i < ags.length ∧ mayN (ags.getD i default) f = true then followN ags (putN (ags.getD i default) f) l else none
def followV (o : Option Nat) : Nat := o.getD 0
theorem followN_step {ags : List Ag} {f k i : Nat} {way : List Nat} (hi : way[k]? = some i) : followN ags f (way.drop k) = if i < ags.length ∧ mayN (ags.getD i default) f = true then followN ags (putN (ags.getD i default) f) (way.drop (k + 1)) else none := by
  obtain ⟨hk, he⟩ := List.getElem?_eq_some_iff.1 hi
  rw [List.drop_eq_getElem_cons hk, he]
  rfl
theorem may_and {x : Ag} {f : Nat} : mayN x f = (decide (f &&& x.needs = x.needs) && decide (f &&& x.no = 0)) := by
  unfold mayN
  have e1 : nn x.needs f = 0 ↔ f &&& x.needs = x.needs := by
    constructor
    · intro h
      apply Nat.eq_of_testBit_eq
      intro i
      have := congrArg (fun n => n.testBit i) h
      simp [nn, Nat.testBit_and, Nat.testBit_xor] at this ⊢
      cases h1 : f.testBit i <;> cases h2 : x.needs.testBit i <;> simp_all
    · intro h
      apply Nat.eq_of_testBit_eq
      intro i
      have := congrArg (fun n => n.testBit i) h
      simp [nn, Nat.testBit_and, Nat.testBit_xor] at this ⊢
      cases h1 : f.testBit i <;> cases h2 : x.needs.testBit i <;> simp_all
  rw [Nat.and_comm x.no f]
  simp [e1]
end Go.Proofs.YtofkhehcnfiopaaDoor.N
namespace Go.Proofs.YtofkhehcnfiopaaDoor.N
open Go Go.RowKit Go.Proofs
set_option linter.unusedSectionVars false
variable [I : Sys]
theorem F.ent50 : Enters Tryd.prog 50 := enters_of Tryd.func50 rfl (by kernel_rfl)
theorem AgentsOf_c {C : Ctx} {fr : List (Nat × Value)} {T : List Res} {a : Act} {w : World} (hC : C.P = Tryd.prog) {hb tk st nc : Nat} {nA : Option Addr} {nums : List Int} (hB : C.w0.heap.size = C.B) (hN : RdL icell 1 C.w0 nA nums) (htk : tk ≤ 980000) (hst : st < 18446744073709551616) {many few : Nat} (hmany : many ≤ 4) (hf1 : 1 ≤ few) (hfew : few ≤ 6) (ha : At C fr (.blk hb (hatO nA nums.length nc (tk) (st)) :: T) a w) : Calls C.P 34 #[.pointer (some ⟨hb, 0, none⟩), .int .i64 (many : Int), .int .i64 (few : Int)] w fun e w' => ∃ (tk' st' : Nat) (l : List Ag) (A : Option Addr) (c : Nat), tk' ≤ tk + 200 ∧ st' < 18446744073709551616 ∧ l.length ≤ many ∧ (∀ x ∈ l, x.ok) ∧ e = .returned (.slice A l.length c) ∧ At C fr (.row 24 5 A l.length c (l.flatMap Ag.cells) :: .blk hb (hatO nA nums.length nc (tk') (st')) :: T) a w' := by
  obtain ⟨P, B, w0, N0, ds⟩ := C
  obtain rfl : P = Tryd.prog := hC
  (try dsimp only at hB)
  (try dsimp only at hN)
  refine enter_in (N := 23) [(0, .pointer (some ⟨hb, 0, none⟩)), (1, .int .i64 (many : Int)), (2, .int .i64 (few : Int))] ha Tryd.func34 rfl Tryd.ntmps34 rfl rfl ?_
  refine cod_seq ?_
  refine cod_region ?_
  refine lst_assign rfl rfl ?_
  refine lst_nil ?_
  refine ex_then ?_
  refine cod_seq ?_
  refine cod_region ?_
  refine lst_assign rfl rfl ?_
  refine lst_nil ?_
  refine ex_then ?_
  refine cod_seq ?_
  refine cod_seq ?_
  refine cod_region ?_
  refine lst_move rfl rfl ?_
  refine lst_move rfl rfl ?_
  refine lst_call_pul (X := Nat × Nat) (vs := [_, _, _]) hb (fun y => hatO nA nums.length nc (tk + 1) (y.1)) (fun y => y.1 < 18446744073709551616 ∧ 0 ≤ y.2 ∧ y.2 ≤ many) (fun y => .int .i64 (y.2 : Int)) rfl rfl F.ent87 (fun a w ha => (From_c (C := ⟨Tryd.prog, B, w0, _, _⟩) rfl hB hN (tk := tk) (st := st) (lo := 0) (hi := many) (by omega) hst (by omega) (by omega) ha).mono (fun e w' h => by obtain ⟨s', x, h1, h2, h3, h4, h5⟩ := h; exact ⟨(s', x), ⟨h1, h2, h3⟩, h4, h5⟩)) ?_
  rintro ⟨s1, n0⟩ ⟨hs1, _, hn0⟩
  dsimp only at hs1 hn0 ⊢
  refine lst_assign rfl rfl ?_
  refine lst_nil ?_
  refine ex_then ?_
  refine cod_block ?_
  refine cod_nil 24 5 ?_
  refine cod_loop' (G := Nat × Nat × Nat × Option Addr × Nat × List Ag) (fun g => g.1 + g.2.2.2.2.2.length ≤ many ∧ (∀ x ∈ g.2.2.2.2.2, x.ok) ∧ g.2.1 ≤ tk + 1 + 40 * g.2.2.2.2.2.length ∧ g.2.2.1 < 18446744073709551616) (fun g => g.1) (fun g => [(0, .pointer (some ⟨hb, 0, none⟩)), (1, .int .i64 (many : Int)), (2, .int .i64 (few : Int)), (7, .slice g.2.2.2.1 g.2.2.2.2.2.length g.2.2.2.2.1), (8, .int .i64 (g.1 : Int))]) (fun g => .row 24 5 g.2.2.2.1 g.2.2.2.2.2.length g.2.2.2.2.1 (g.2.2.2.2.2.flatMap Ag.cells) :: .blk hb (hatO nA nums.length nc (g.2.1) (g.2.2.1)) :: T) (n0, tk + 1, s1, none, 0, []) ⟨by simp; omega, by simp, by simp, hs1⟩ (by repeat (first | exact Sub.nil _ | refine Sub.cons rfl ?_)) (by repeat (first | exact Pck.nil _ | exact Pck.refl _ | (apply Pck.cons; focus ((repeat (first | exact Rem.here _ | apply Rem.there)); done)) | refine Pck.skip _ ?_)) ?_
  rintro ⟨i, t1, s2, A1, c1, l⟩ ⟨hil, hlo, ht1, hs2⟩
  dsimp only at hil hlo ht1 hs2 ⊢
  refine cod_seq ?_
  refine cod_seq ?_
  refine cod_region ?_
  refine lst_move rfl rfl ?_
  refine lst_int rfl rfl rfl bin_gtr ?_
  refine lst_nil ?_
  refine ex_then ?_
  refine cod_cond_dec rfl (fun hc0 => ?_) (fun hc0 => ?_)
  · skip
    obtain ⟨i, rfl⟩ : ∃ i', i = i' + 1 := ⟨i - 1, by omega⟩
    refine cod_skip ?_
    refine ex_then ?_
    refine cod_seq ?_
    refine cod_block ?_
    refine cod_region ?_
    refine lst_move rfl rfl ?_
    refine lst_move rfl rfl ?_
    refine lst_move rfl rfl ?_
    refine lst_call_pul (X := Nat × Nat × Ag) (vs := [_, _]) hb (fun y => hatO nA nums.length nc (y.1) (y.2.1)) (fun y => y.1 ≤ t1 + 40 ∧ y.2.1 < 18446744073709551616 ∧ y.2.2.ok) (fun y => .agg [.int .i64 (y.2.2.needs : Int), .int .i64 (y.2.2.no : Int), .int .i64 (y.2.2.takes : Int), .int .i64 (y.2.2.leaves : Int), .int .i64 (y.2.2.cost : Int)].toArray) rfl rfl F.ent50 (fun a w ha => (AgentOf_c (C := ⟨Tryd.prog, B, w0, _, _⟩) rfl hB hN (tk := t1) (st := s2) (few := few) (by omega) hs2 hf1 hfew ha).mono (fun e w' h => by obtain ⟨t', s', x, h1, h2, h3, h4, h5⟩ := h; exact ⟨(t', s', x), ⟨h1, h2, h3⟩, h4, h5⟩)) ?_
    rintro ⟨t2, s3, x⟩ ⟨ht2, hs3, hxo⟩
    dsimp only at ht2 hs3 hxo ⊢
    refine lst_litN (vs := [(0, _)]) [_, _, _, _, _] rfl rfl Tryd.underlying22 F.ti24 rfl rfl rfl ⟨rfl, [_, _, _, _, _], [], rfl, rfl, rfl, rfl⟩ ?_
    intro b20
    refine lst_append rfl rfl rfl Tryd.underlying22 F.ti24 rfl rfl rfl (by unfold maxLen; omega) (by omega) ?_
    intro A2 c2
    refine lst_assign rfl rfl ?_
    refine lst_nil ?_
    refine ex_block_normal ?_
    refine ex_then ?_
    refine cod_region ?_
    refine lst_move rfl rfl ?_
    refine lst_int rfl rfl rfl (fun w => bin_sub w (show IntKind.i64.wrap (((i + 1 : Nat) : Int) - 1) = (i : Int) from by rw [wrap_i64' _ (by omega) (by omega)]; omega)) ?_
    refine lst_assign rfl rfl ?_
    refine lst_nil ?_
    refine ex_round' (i, t2, s3, A2, c2, l ++ [x]) ⟨by simp; omega, fun y hy => ?_, by simp; omega, hs3⟩ (by (try dsimp only); omega) (by dsimp only; rw [List.length_append, List.length_singleton]; repeat (first | exact Sub.nil _ | refine Sub.cons rfl ?_)) (by dsimp only; rw [List.length_append, List.length_singleton, List.flatMap_append, List.flatMap_singleton]; repeat (first | exact Pck.nil _ | exact Pck.refl _ | (apply Pck.cons; focus ((repeat (first | exact Rem.here _ | apply Rem.there)); done)) | refine Pck.skip _ ?_))
    rcases List.mem_append.1 hy with h | h
    · exact hlo y h
    · simp at h; subst h; exact hxo
  · skip
    refine cod_exit ?_
    refine ex_then_exit ?_
    refine ex_then_exit ?_
    refine ex_block_exit ?_
    refine ex_then ?_
    refine cod_seq ?_
    refine cod_region ?_
    refine lst_move rfl rfl ?_
    refine lst_assign rfl rfl ?_
    refine lst_nil ?_
    refine ex_then ?_
    refine cod_ret ?_
    exact ex_ret rfl (fun a w ha => res_one rfl rfl ha) (fun _ _ ha' => ⟨t1, s2, l, A1, c1, by omega, hs2, by omega, hlo, rfl, ha.back (ha'.pck (by repeat (first | exact Pck.nil _ | exact Pck.refl _ | (apply Pck.cons; focus ((repeat (first | exact Rem.here _ | apply Rem.there)); done)) | refine Pck.skip _ ?_)))⟩)

theorem PassOf_c {C : Ctx} {fr : List (Nat × Value)} {T : List Res} {a : Act} {w : World} (hC : C.P = Tryd.prog) {hb tk st nc : Nat} {nA : Option Addr} {nums : List Int} (hB : C.w0.heap.size = C.B) (hN : RdL icell 1 C.w0 nA nums) (htk : tk ≤ 990000) (hst : st < 18446744073709551616) {few : Nat} (hfew : few ≤ 6) (ha : At C fr (.blk hb (hatO nA nums.length nc (tk) (st)) :: T) a w) : Calls C.P 26 #[.pointer (some ⟨hb, 0, none⟩), .int .i64 (few : Int)] w fun e w' => ∃ st' x : Nat, st' < 18446744073709551616 ∧ x < 64 ∧ e = .returned (.int .i64 (x : Int)) ∧ At C fr (.blk hb (hatO nA nums.length nc (tk + few + few) (st')) :: T) a w' := by
  have hpw : 2 ^ few ≤ 64 := (show 2 ^ few ≤ 2 ^ 6 from Nat.pow_le_pow_right (by omega) hfew)
  have hpw1 : 1 ≤ 2 ^ few := Nat.one_le_two_pow
  obtain ⟨P, B, w0, N0, ds⟩ := C
  obtain rfl : P = Tryd.prog := hC
  (try dsimp only at hB)
  (try dsimp only at hN)
  refine enter_in (N := 17) [(0, .pointer (some ⟨hb, 0, none⟩)), (1, .int .i64 (few : Int))] ha Tryd.func26 rfl Tryd.ntmps26 rfl rfl ?_
  refine cod_seq ?_
  refine cod_region ?_
  refine lst_assign rfl rfl ?_
  refine lst_nil ?_
  refine ex_then ?_
  refine cod_seq ?_
  refine any_begin [.b hb] F.follows 13 rfl [false, false, false, false, false, false, false, false, false, false, false, false, false] rfl ?_
  refine any_take (listed' := [true, false, false, false, false, false, false, false, false, false, false, false, false].toArray) 0 rfl rfl rfl (by kernel_rfl) (by kernel_rfl) (by kernel_rfl) (by repeat (first | exact List.Sublist.refl _ | exact List.nil_sublist _ | refine List.Sublist.cons_cons _ ?_ | refine List.Sublist.cons _ ?_)) (yld_move rfl) rfl ?_
  refine any_take (listed' := [true, true, false, false, false, false, false, false, false, false, false, false, false].toArray) 1 rfl rfl rfl (by kernel_rfl) (by kernel_rfl) (by kernel_rfl) (by repeat (first | exact List.Sublist.refl _ | exact List.nil_sublist _ | refine List.Sublist.cons_cons _ ?_ | refine List.Sublist.cons _ ?_)) (yld_shl rfl rfl (by omega) (shl_i64 (by omega))) rfl ?_
  refine any_take (listed' := [true, true, true, false, false, false, false, false, false, false, false, false, false].toArray) 2 rfl rfl rfl (by kernel_rfl) (by kernel_rfl) (by kernel_rfl) (by repeat (first | exact List.Sublist.refl _ | exact List.nil_sublist _ | refine List.Sublist.cons_cons _ ?_ | refine List.Sublist.cons _ ?_)) (yld_int rfl rfl (fun w => bin_sub w (sub_pow hfew))) rfl ?_
  refine any_take (listed' := [true, true, true, true, false, false, false, false, false, false, false, false, false].toArray) 3 rfl rfl rfl (by kernel_rfl) (by kernel_rfl) (by kernel_rfl) (by repeat (first | exact List.Sublist.refl _ | exact List.nil_sublist _ | refine List.Sublist.cons_cons _ ?_ | refine List.Sublist.cons _ ?_)) (yld_int rfl rfl (fun w => bin_andNot w (i64_andNot 63 (2 ^ few - 1) (by omega) (by omega)))) rfl ?_
  refine any_take (listed' := [true, true, true, true, true, false, false, false, false, false, false, false, false].toArray) 4 rfl rfl rfl (by kernel_rfl) (by kernel_rfl) (by kernel_rfl) (by repeat (first | exact List.Sublist.refl _ | exact List.nil_sublist _ | refine List.Sublist.cons_cons _ ?_ | refine List.Sublist.cons _ ?_)) (yld_move rfl) rfl ?_
  refine any_take (listed' := [true, true, true, true, true, true, false, false, false, false, false, false, false].toArray) 5 rfl rfl rfl (by kernel_rfl) (by kernel_rfl) (by kernel_rfl) (by repeat (first | exact List.Sublist.refl _ | exact List.nil_sublist _ | refine List.Sublist.cons_cons _ ?_ | refine List.Sublist.cons _ ?_)) (yld_move rfl) rfl ?_
  refine any_take (listed' := [true, true, true, true, true, true, false, true, false, false, false, false, false].toArray) 7 rfl rfl rfl (by kernel_rfl) (by kernel_rfl) (by kernel_rfl) (by repeat (first | exact List.Sublist.refl _ | exact List.nil_sublist _ | refine List.Sublist.cons_cons _ ?_ | refine List.Sublist.cons _ ?_)) (yld_move rfl) rfl ?_
  refine any_take (listed' := [true, true, true, true, true, true, false, true, true, false, false, false, false].toArray) 8 rfl rfl rfl (by kernel_rfl) (by kernel_rfl) (by kernel_rfl) (by repeat (first | exact List.Sublist.refl _ | exact List.nil_sublist _ | refine List.Sublist.cons_cons _ ?_ | refine List.Sublist.cons _ ?_)) (yld_move rfl) rfl ?_
  refine any_one (listed' := [true, true, true, true, true, true, true, true, true, false, false, false, false].toArray) 6 (by kernel_rfl) rfl rfl ?_
  refine lst_call_pul (X := Nat × Nat) (vs := [_, _]) hb (fun y => hatO nA nums.length nc (tk + few) (y.1)) (fun y => y.1 < 18446744073709551616 ∧ y.2 < 2 ^ few) (fun y => .int .i64 (y.2 : Int)) rfl rfl F.ent63 (fun a w ha => (FaultsOf_c (C := ⟨Tryd.prog, B, w0, _, _⟩) rfl hB hN (tk := tk) (st := st) (few := few) (by omega) hst hfew ha).mono (fun e w' h => by obtain ⟨s', x, h1, h2, h3, h4⟩ := h; exact ⟨(s', x), ⟨h1, h2⟩, h3, h4⟩)) ?_
  rintro ⟨s1, f1⟩ ⟨hs1, hf1⟩
  dsimp only at hs1 hf1 ⊢
  have hlf1 : f1 < 64 := few64 hf1 hfew
  refine lst_nil ?_
  refine any_next (by repeat (first | exact List.Sublist.refl _ | exact List.nil_sublist _ | refine List.Sublist.cons_cons _ ?_ | refine List.Sublist.cons _ ?_)) ?_
  refine any_one (listed' := [true, true, true, true, true, true, true, true, true, true, false, false, false].toArray) 9 (by kernel_rfl) rfl rfl ?_
  refine lst_call_pul (X := Nat × Nat) (vs := [_, _]) hb (fun y => hatO nA nums.length nc (tk + few + few) (y.1)) (fun y => y.1 < 18446744073709551616 ∧ y.2 < 2 ^ few) (fun y => .int .i64 (y.2 : Int)) rfl rfl F.ent63 (fun a w ha => (FaultsOf_c (C := ⟨Tryd.prog, B, w0, _, _⟩) rfl hB hN (tk := tk + few) (st := s1) (few := few) (by omega) hs1 hfew ha).mono (fun e w' h => by obtain ⟨s', x, h1, h2, h3, h4⟩ := h; exact ⟨(s', x), ⟨h1, h2⟩, h3, h4⟩)) ?_
  rintro ⟨s2, f2⟩ ⟨hs2, hf2⟩
  dsimp only at hs2 hf2 ⊢
  have hlf2 : f2 < 64 := few64 hf2 hfew
  refine lst_nil ?_
  refine any_next (by repeat (first | exact List.Sublist.refl _ | exact List.nil_sublist _ | refine List.Sublist.cons_cons _ ?_ | refine List.Sublist.cons _ ?_)) ?_
  refine any_take (listed' := [true, true, true, true, true, true, true, true, true, true, true, false, false].toArray) 10 rfl rfl rfl (by kernel_rfl) (by kernel_rfl) (by kernel_rfl) (by repeat (first | exact List.Sublist.refl _ | exact List.nil_sublist _ | refine List.Sublist.cons_cons _ ?_ | refine List.Sublist.cons _ ?_)) (yld_int rfl rfl (fun w => bin_and w (i64_and f1 f2 (by omega) (by omega)))) rfl ?_
  have hl12 : f1 &&& f2 < 64 := and64 hlf1
  have hln : nn 63 (2 ^ few - 1) < 64 := nn64 (by omega)
  refine any_take (listed' := [true, true, true, true, true, true, true, true, true, true, true, true, false].toArray) 11 rfl rfl rfl (by kernel_rfl) (by kernel_rfl) (by kernel_rfl) (by repeat (first | exact List.Sublist.refl _ | exact List.nil_sublist _ | refine List.Sublist.cons_cons _ ?_ | refine List.Sublist.cons _ ?_)) (yld_int rfl rfl (fun w => bin_or w (i64_or (nn 63 (2 ^ few - 1)) (f1 &&& f2) (by omega) (by omega)))) rfl ?_
  refine any_take (listed' := [true, true, true, true, true, true, true, true, true, true, true, true, true].toArray) 12 rfl rfl rfl (by kernel_rfl) (by kernel_rfl) (by kernel_rfl) (by repeat (first | exact List.Sublist.refl _ | exact List.nil_sublist _ | refine List.Sublist.cons_cons _ ?_ | refine List.Sublist.cons _ ?_)) (yld_assign rfl) rfl ?_
  refine any_done rfl (by kernel_rfl) ?_
  refine ex_then ?_
  refine cod_ret ?_
  exact ex_ret rfl (fun a w ha => res_one rfl rfl ha) (fun _ _ ha' => ⟨s2, _, hs2, or64 hln hl12, rfl, ha.back (ha'.pck (by repeat (first | exact Pck.nil _ | exact Pck.refl _ | (apply Pck.cons; focus ((repeat (first | exact Rem.here _ | apply Rem.there)); done)) | refine Pck.skip _ ?_)))⟩)

theorem Clear_c (f p : Nat) (hf : f < 64) (hp : p < 64) (w : World) : Calls Tryd.prog 37 #[.int .i64 (f : Int), .int .i64 (p : Int)] w fun e w' => e = .returned (.bool (decide (nn f p = 0))) ∧ Grew w w' [] := by
  refine enter (N := 9) [(0, .int .i64 (f : Int)), (1, .int .i64 (p : Int))] Tryd.func37 rfl Tryd.ntmps37 rfl rfl ?_
  refine cod_seq ?_
  refine cod_region ?_
  refine lst_assign rfl rfl ?_
  refine lst_nil ?_
  refine ex_then ?_
  refine cod_seq ?_
  refine cod_region ?_
  refine lst_move rfl rfl ?_
  refine lst_move rfl rfl ?_
  refine lst_int rfl rfl rfl (fun w => bin_andNot w (i64_andNot f p (by omega) (by omega))) ?_
  refine lst_int rfl rfl rfl bin_eql ?_
  refine lst_assign rfl rfl ?_
  refine lst_nil ?_
  refine ex_then ?_
  refine cod_ret ?_
  refine ex_ret rfl (fun a w ha => res_one rfl rfl ha) (fun a w ha => ?_)
  exact ⟨by rw [dec_zero], ha.grown (List.nil_sublist _)⟩

end Go.Proofs.YtofkhehcnfiopaaDoor.N
namespace Go.Proofs.YtofkhehcnfiopaaDoor.N
open Go Go.RowKit Go.Proofs
set_option linter.unusedSectionVars false
variable [I : Sys]
section
variable {C : Ctx} {fr : List (Nat × Value)} {hp hp' : List Res} {a : Act} {w : World} {ops : Array Oper} {Q : Exit → Act → World → Prop} {rest : List Oper}
  {d : Nat} {ty : TypeId} {pos : String} {after : Array Edge}
/-- Nothing is appended. -/
theorem lst_append_none {x y : Operand} {t e : TypeId} {p : Addr} {n c size bytes : Nat} {z : Value} (hd : Nat.blt d C.N = true)
    (hx : ev fr x = some (.slice (some p) n c)) (hy : ev fr y = some (.slice none 0 0)) (ht : C.P.underlying t = some (.slice e)) (hi : TI C.P e z size bytes) (hnc : n ≤ c)
    (k : Lst C ops Q rest ((d, .slice (some p) n c) :: fr) hp) :
    Lst C ops Q (⟨some d, .call { callee := .builtin .append, args := #[x, y], argTypes := #[t, t] }, ty, pos, after, none⟩ :: rest) fr hp := by
  obtain ⟨i, hi1, hi2, hi3, hi4⟩ := hi
  refine lst_value _ hd (fun a w ha => tame_builtin fun cs => by simp only [List.map_toArray, List.map_cons, List.map_nil, ha.eval hx, ha.eval hy]; exact tame_append ht) (fun a w ha => ⟨w, ?_, ha⟩) k
  have hr : (Builtin.append_ #[t, t] ty #[.slice (some p) n c, .slice none 0 0]).run C.P w = .ok (.slice (some p) n c) w := by
    simp [Builtin.append_, run_underlying ht, sizeOf, typeInfo, hi1, Builtin.lenOf, hnc, run_firstCells_none, storeCells]
  simp only [execOp, resolve, invoke, builtin, Sem.run_bind, Sem.run_pure, Result.andThen_ok, List.map_toArray, List.map_cons, List.map_nil, ha.eval hx, ha.eval hy, hr]
/-- A slice's literal is a row. -/
theorem At.as_rowN (ha : At C fr hp a w) {b e size n : Nat} {l : List Value} (hl : l.length = n * size) (hn : n ≤ maxLen) (hu : Upd (.blk b (.cells l.toArray e (0, 0))) (.row e size (some ⟨b, 0, none⟩) n n l) hp hp') : At C fr hp' a w := by
  have hb := ha.own _ hu.mem
  refine ha.turn hu (⟨rfl, rfl, rfl, Nat.le_refl _, fun _ _ _ => rfl⟩ : w.grownBy w _) ⟨hl, .inr ⟨b, n, l.toArray, rfl, hb.1, hb.2, Nat.le_refl _, hn, by simp [hl], by simp [← hl]⟩⟩ (fun k hk => .inl ?_)
  exact hk
theorem lst_as_rowN {l : List Oper} {b e : Nat} (size n : Nat) {cs : List Value} (hl : cs.length = n * size) (hn : n ≤ maxLen) (hu : Upd (.blk b (.cells cs.toArray e (0, 0))) (.row e size (some ⟨b, 0, none⟩) n n cs) hp hp') (h : Lst C ops Q l fr hp') : Lst C ops Q l fr hp := fun a w ha => h a w (ha.as_rowN hl hn hu)
end
/-- A list of numbers, somewhere. -/
structure Sl where
  A : Option Addr
  c : Nat
  l : List Nat
def Sl.val (s : Sl) : Value := .slice s.A s.l.length s.c
def Sl.res (s : Sl) : Res := .row 3 1 s.A s.l.length s.c (ints s.l)
theorem Pck.snoc (Ms : List Sl) (s : Sl) (R : List Res) : Pck ((Ms ++ [s]).map Sl.res ++ R) (s.res :: (Ms.map Sl.res ++ R)) := by
  refine .perm ?_ (.refl _)
  rw [List.map_append, List.append_assoc]
  exact List.perm_middle.symm
/-- All lists of k numbers below n, in their order. -/
def strs (n : Nat) : Nat → List (List Nat)
  | 0 => [[]]
  | k + 1 => (strs n k).flatMap fun x => (List.range n).map fun y => x ++ [y]
theorem strs_len (n : Nat) : ∀ k, (strs n k).length = n ^ k
  | 0 => rfl
  | k + 1 => by
    have h : ∀ l : List (List Nat), (l.flatMap fun x => (List.range n).map fun y => x ++ [y]).length = l.length * n := by
      intro l
      induction l with
      | nil => simp
      | cons a l ih => rw [List.flatMap_cons, List.length_append, ih]; simp [Nat.add_mul, Nat.add_comm]
    show ((strs n k).flatMap _).length = _
    rw [h, strs_len n k, Nat.pow_succ]
end Go.Proofs.YtofkhehcnfiopaaDoor.N
namespace Go.Proofs.YtofkhehcnfiopaaDoor.N
open Go Go.RowKit Go.Proofs
set_option linter.unusedSectionVars false
variable [I : Sys]

theorem follows_c (A wA : Option Addr) (c wc f : Nat) (ags : List Ag) (way : List Nat) (hok : Oks ags) (hf : f < 64) (hwl : way.length ≤ 1000) (w : World) (hA : RdL Ag.cells 5 w A ags) (hW : RdL ncell 1 w wA way) : Calls Tryd.prog 36 #[.slice A ags.length c, .int .i64 (f : Int), .slice wA way.length wc] w fun e w' => e = .returned (.tuple #[.int .i64 (followV (followN ags f way) : Int), .bool (followN ags f way).isSome]) ∧ Grew w w' [] := by
  refine enter (N := 59) [(0, .slice A ags.length c), (1, .int .i64 (f : Int)), (2, .slice wA way.length wc)] Tryd.func36 rfl Tryd.ntmps36 rfl rfl ?_
  refine cod_seq ?_
  refine cod_region ?_
  refine lst_assign rfl rfl ?_
  refine lst_assign rfl rfl ?_
  refine lst_nil ?_
  refine ex_then ?_
  refine cod_seq ?_
  refine cod_seq ?_
  refine cod_region ?_
  refine lst_assign rfl rfl ?_
  refine lst_nil ?_
  refine ex_then ?_
  refine cod_block ?_
  refine cod_loop (G := Nat × Nat) (fun g => g.1 ≤ way.length ∧ g.2 < 64 ∧ followN ags f way = followN ags g.2 (way.drop g.1)) (fun g => way.length - g.1) (fun g => [(0, .slice A ags.length c), (1, .int .i64 (g.2 : Int)), (2, .slice wA way.length wc), (8, .int .i64 (g.1 : Int))]) (fun g => []) (0, f) ⟨Nat.zero_le _, hf, rfl⟩ (by repeat (first | exact Sub.nil _ | refine Sub.cons rfl ?_)) (by repeat (first | exact List.Sublist.refl _ | exact List.nil_sublist _ | refine List.Sublist.cons_cons _ ?_ | refine List.Sublist.cons _ ?_)) ?_
  rintro ⟨k, fk⟩ hk
  (try dsimp only at hk ⊢)
  refine cod_seq ?_
  refine cod_seq ?_
  refine cod_region ?_
  refine lst_move rfl rfl ?_
  refine lst_move rfl rfl ?_
  refine lst_len rfl rfl Tryd.underlying25 ?_
  refine lst_int rfl rfl rfl bin_lss ?_
  refine lst_nil ?_
  refine ex_then ?_
  refine cod_cond_dec rfl (fun hc0 => ?_) (fun hc0 => ?_)
  · skip
    have hk' : k < way.length := by omega
    obtain ⟨b, o, rfl, hb, hcell⟩ := hW (by omega)
    obtain ⟨i, hwi⟩ : ∃ i, way[k]? = some i := ⟨_, List.getElem?_eq_getElem hk'⟩
    have hst := followN_step (ags := ags) (f := fk) hwi
    refine cod_skip ?_
    refine ex_then ?_
    refine cod_seq ?_
    refine cod_block ?_
    refine cod_seq ?_
    refine cod_seq ?_
    refine cod_region ?_
    refine lst_move rfl rfl ?_
    refine lst_move rfl rfl ?_
    refine lst_index (j := k) rfl rfl rfl Tryd.underlying25 F.ti3 rfl hk' ?_
    refine lst_load_at (v := .int .i64 (i : Int)) rfl rfl F.one3 (fun a w ha => ha.old (hcell k i hwi 0 _ rfl) hb) ?_
    refine lst_int (v := .bool false) rfl rfl rfl (fun w => by rw [bin_lss, decide_eq_false (by omega)]) ?_
    refine lst_move rfl rfl ?_
    refine lst_on rfl rfl ?_
    refine lst_move rfl rfl ?_
    refine lst_on rfl rfl ?_
    refine lst_move rfl rfl ?_
    refine lst_on rfl rfl ?_
    refine lst_index (j := k) rfl rfl rfl Tryd.underlying25 F.ti3 rfl hk' ?_
    refine lst_on rfl rfl ?_
    refine lst_load_at (v := .int .i64 (i : Int)) rfl rfl F.one3 (fun a w ha => ha.old (hcell k i hwi 0 _ rfl) hb) ?_
    refine lst_on rfl rfl ?_
    refine lst_move rfl rfl ?_
    refine lst_on rfl rfl ?_
    refine lst_len rfl rfl Tryd.underlying22 ?_
    refine lst_on rfl rfl ?_
    refine lst_int rfl rfl rfl bin_geq ?_
    refine lst_pick_false rfl rfl rfl ?_
    refine lst_nil ?_
    refine ex_then ?_
    refine cod_cond_dec rfl (fun hc1 => ?_) (fun hc1 => ?_)
    · skip
      refine cod_seq ?_
      refine cod_region ?_
      refine lst_assign rfl rfl ?_
      refine lst_assign rfl rfl ?_
      refine lst_nil ?_
      refine ex_then ?_
      refine cod_ret ?_
      refine ex_then_ret ?_
      refine ex_block_ret ?_
      refine ex_then_ret ?_
      refine ex_then_ret ?_
      refine ex_block_ret ?_
      refine ex_then_ret ?_
      have e1 : followN ags f way = none := by rw [hk.2.2, hst, if_neg (by omega)]
      exact ex_ret rfl (fun a w ha => res_two rfl rfl rfl ha) (fun a w ha => ⟨by rw [e1]; rfl, ha.grown (List.nil_sublist _)⟩)
    · skip
      have hi' : i < ags.length := by omega
      obtain ⟨b', o', rfl, hb', hcell'⟩ := hA (by omega)
      obtain ⟨x, hx⟩ : ∃ x, ags[i]? = some x := ⟨_, List.getElem?_eq_getElem hi'⟩
      have hxo : x.ok := hok.2 x (List.mem_of_getElem? hx)
      have hxd : ags.getD i default = x := by rw [List.getD_eq_getElem?_getD, hx]; rfl
      rw [hxd] at hst
      have hfk := hk.2.1
      have hx1 := hxo.needs
      have hx2 := hxo.no
      have hx3 := hxo.takes
      have hx4 := hxo.leaves
      refine cod_skip ?_
      refine ex_then ?_
      refine cod_seq ?_
      refine cod_region ?_
      refine lst_move rfl rfl ?_
      refine lst_move rfl rfl ?_
      refine lst_move rfl rfl ?_
      refine lst_index (j := k) rfl rfl rfl Tryd.underlying25 F.ti3 rfl hk' ?_
      refine lst_load_at (v := .int .i64 (i : Int)) rfl rfl F.one3 (fun a w ha => ha.old (hcell k i hwi 0 _ rfl) hb) ?_
      refine lst_index (j := i) rfl rfl rfl Tryd.underlying22 F.ti24 rfl hi' ?_
      refine lst_loadN_at (l := [.int .i64 (x.needs : Int), .int .i64 (x.no : Int), .int .i64 (x.takes : Int), .int .i64 (x.leaves : Int), .int .i64 (x.cost : Int)]) rfl rfl F.agg24 F.ti24 rfl (fun a w ha j u hu => ha.old (hcell' i x hx j u hu) hb') ?_
      refine lst_alloc rfl F.ti24 ?_
      intro b9
      refine lst_store rfl rfl F.ti24 rfl ?_
      refine lst_nil ?_
      refine ex_then ?_
      refine cod_seq ?_
      refine cod_seq ?_
      refine cod_region ?_
      refine lst_cut1 14 50 (.bool (!(mayN x fk))) ?_ ?_
      · skip
        refine lst_move rfl rfl ?_
        refine lst_field_z rfl rfl F.fi24_0 F.ti3 ?_
        refine lst_load rfl rfl F.one3 ?_
        refine lst_int rfl rfl rfl (fun w => bin_and w (i64_and fk x.needs (by omega) (by omega))) ?_
        refine lst_field_z rfl rfl F.fi24_0 F.ti3 ?_
        refine lst_load rfl rfl F.one3 ?_
        refine lst_int rfl rfl rfl bin_neq ?_
        refine lst_move rfl rfl ?_
        refine lst_split (t := 44) rfl (fun hg44 => ?_) (fun hg44 => ?_)
        · skip
          refine lst_off rfl rfl rfl ?_
          refine lst_off rfl rfl rfl ?_
          refine lst_off rfl rfl rfl ?_
          refine lst_off rfl rfl rfl ?_
          refine lst_off rfl rfl rfl ?_
          refine lst_pick_true rfl rfl rfl ?_
          refine lst_nil ?_
          exact ex_cut (.cons (by rw [may_and]; simp only [ne_eq, Int.ofNat_inj] at hg44; simp [look, hg44]; try omega) (by repeat (first | exact Sub.nil _ | refine Sub.cons rfl ?_))) (by repeat (first | exact List.Sublist.refl _ | exact List.nil_sublist _ | refine List.Sublist.cons_cons _ ?_ | refine List.Sublist.cons _ ?_))
        · skip
          refine lst_on rfl rfl ?_
          refine lst_move rfl rfl ?_
          refine lst_on rfl rfl ?_
          refine lst_field_z rfl rfl F.fi24_1 F.ti3 ?_
          refine lst_on rfl rfl ?_
          refine lst_load rfl rfl F.one3 ?_
          refine lst_on rfl rfl ?_
          refine lst_int rfl rfl rfl (fun w => bin_and w (i64_and fk x.no (by omega) (by omega))) ?_
          refine lst_on rfl rfl ?_
          refine lst_int rfl rfl rfl bin_neq ?_
          refine lst_pick_false rfl rfl rfl ?_
          refine lst_nil ?_
          exact ex_cut (.cons (by rw [may_and]; simp only [ne_eq, Int.ofNat_inj] at hg44; simp [look, hg44]; try omega) (by repeat (first | exact Sub.nil _ | refine Sub.cons rfl ?_))) (by repeat (first | exact List.Sublist.refl _ | exact List.nil_sublist _ | refine List.Sublist.cons_cons _ ?_ | refine List.Sublist.cons _ ?_))
      refine lst_nil ?_
      refine ex_then ?_
      refine cod_cond_bool rfl (fun hc2 => ?_) (fun hc2 => ?_)
      · skip
        refine cod_seq ?_
        refine cod_region ?_
        refine lst_assign rfl rfl ?_
        refine lst_assign rfl rfl ?_
        refine lst_nil ?_
        refine ex_then ?_
        refine cod_ret ?_
        refine ex_then_ret ?_
        refine ex_block_ret ?_
        refine ex_then_ret ?_
        refine ex_then_ret ?_
        refine ex_block_ret ?_
        refine ex_then_ret ?_
        have hm : mayN x fk = false := by simpa using hc2
        have e1 : followN ags f way = none := by rw [hk.2.2, hst, if_neg (by rw [hm]; simp)]
        exact ex_ret rfl (fun a w ha => res_two rfl rfl rfl ha) (fun a w ha => ⟨by rw [e1]; rfl, ha.grown (List.nil_sublist _)⟩)
      · skip
        have hm : mayN x fk = true := by simpa using hc2
        rw [if_pos ⟨hi', hm⟩] at hst
        have hnn : nn fk x.takes < 64 := nn64 hfk
        refine cod_skip ?_
        refine ex_then ?_
        refine cod_region ?_
        refine lst_move rfl rfl ?_
        refine lst_field_z rfl rfl F.fi24_2 F.ti3 ?_
        refine lst_load rfl rfl F.one3 ?_
        refine lst_int rfl rfl rfl (fun w => bin_andNot w (i64_andNot fk x.takes (by omega) (by omega))) ?_
        refine lst_field_z rfl rfl F.fi24_3 F.ti3 ?_
        refine lst_load rfl rfl F.one3 ?_
        refine lst_int rfl rfl rfl (fun w => bin_or w (i64_or (nn fk x.takes) x.leaves (by omega) (by omega))) ?_
        refine lst_assign rfl rfl ?_
        refine lst_nil ?_
        refine ex_block_normal ?_
        refine ex_then ?_
        refine cod_region ?_
        refine lst_move rfl rfl ?_
        refine lst_int rfl rfl rfl (fun w => bin_add w (wrap_i64' _ (by omega) (by omega))) ?_
        refine lst_assign rfl rfl ?_
        refine lst_nil ?_
        refine ex_round (k + 1, putN x fk) ⟨by omega, putN_lt hxo hfk, by rw [hk.2.2, hst]⟩ (by (try dsimp only); omega) (by repeat (first | exact Sub.nil _ | refine Sub.cons rfl ?_)) (by repeat (first | exact List.Sublist.refl _ | exact List.nil_sublist _ | refine List.Sublist.cons_cons _ ?_ | refine List.Sublist.cons _ ?_))
  · skip
    refine cod_exit ?_
    refine ex_then_exit ?_
    refine ex_then_exit ?_
    refine ex_block_exit ?_
    refine ex_then ?_
    refine cod_seq ?_
    refine cod_region ?_
    refine lst_move rfl rfl ?_
    refine lst_assign rfl rfl ?_
    refine lst_assign rfl rfl ?_
    refine lst_nil ?_
    refine ex_then ?_
    refine cod_ret ?_
    obtain rfl : k = way.length := by omega
    have e1 : followN ags f way = some fk := by rw [hk.2.2, List.drop_length]; rfl
    exact ex_ret rfl (fun a w ha => res_two rfl rfl rfl ha) (fun a w ha => ⟨by rw [e1]; rfl, ha.grown (List.nil_sublist _)⟩)

theorem dup_nil  (w : World) : Calls Tryd.prog 27 #[.slice none 0 0] w fun e w' => ∃ A' c', e = .returned (.slice A' 0 c') ∧ Grew w w' [.row 3 1 A' 0 c' (ints [])] := by
  refine enter (N := 6) [(0, .slice none 0 0)] Tryd.func27 rfl Tryd.ntmps27 rfl rfl ?_
  refine cod_seq ?_
  refine cod_region ?_
  refine lst_assign rfl rfl ?_
  refine lst_nil ?_
  refine ex_then ?_
  refine cod_seq ?_
  refine cod_region ?_
  refine lst_lit0 rfl Tryd.underlying25 F.ti3 ?_
  intro b3
  refine lst_as_row 1 (.head _) ?_
  refine lst_move rfl rfl ?_
  refine lst_append_none rfl rfl rfl Tryd.underlying25 F.ti3 (Nat.le_refl _) ?_
  refine lst_assign rfl rfl ?_
  refine lst_nil ?_
  refine ex_then ?_
  refine cod_ret ?_
  exact ex_ret rfl (fun a w ha => res_one rfl rfl ha) (fun a w ha => ⟨_, 0, rfl, ha.grown (by repeat (first | exact List.Sublist.refl _ | exact List.nil_sublist _ | refine List.Sublist.cons_cons _ ?_ | refine List.Sublist.cons _ ?_))⟩)

theorem dup_some (p : Addr) (c : Nat) (l : List Nat) (hl : l.length ≤ 400000) (w : World) (hA : RdL ncell 1 w (some p) l) : Calls Tryd.prog 27 #[.slice (some p) l.length c] w fun e w' => ∃ A' c', e = .returned (.slice A' l.length c') ∧ Grew w w' [.row 3 1 A' l.length c' (ints l)] := by
  refine enter (N := 6) [(0, .slice (some p) l.length c)] Tryd.func27 rfl Tryd.ntmps27 rfl rfl ?_
  refine cod_seq ?_
  refine cod_region ?_
  refine lst_assign rfl rfl ?_
  refine lst_nil ?_
  refine ex_then ?_
  refine cod_seq ?_
  refine cod_region ?_
  refine lst_lit0 rfl Tryd.underlying25 F.ti3 ?_
  intro b3
  refine lst_as_row 1 (.head _) ?_
  refine lst_move rfl rfl ?_
  refine lst_append_ints rfl rfl rfl Tryd.underlying25 F.ti3 rfl (fun a w ha j u hu => (hA.later ha.below).ints_at hu) rfl (by unfold maxLen; omega) (by omega) ?_
  intro A1 c1
  refine lst_assign rfl rfl ?_
  refine lst_nil ?_
  refine ex_then ?_
  refine cod_ret ?_
  simp only [Nat.zero_add, List.nil_append]
  exact ex_ret rfl (fun a w ha => res_one rfl rfl ha) (fun a w ha => ⟨A1, c1, rfl, ha.grown (by repeat (first | exact List.Sublist.refl _ | exact List.nil_sublist _ | refine List.Sublist.cons_cons _ ?_ | refine List.Sublist.cons _ ?_))⟩)

end Go.Proofs.YtofkhehcnfiopaaDoor.N
namespace Go.Proofs.YtofkhehcnfiopaaDoor.N
open Go Go.RowKit Go.Proofs
set_option linter.unusedSectionVars false
variable [I : Sys]
theorem Pck.of_sub {t l : List Res} (h : t.Sublist l) : Pck t l := by
  induction h with
  | slnil => exact .nil _
  | cons x _ ih => exact .skip x ih
  | cons_cons x _ ih => exact .cons (.here _) ih
theorem Pck.pre (l R : List Res) : Pck (l ++ []) (l ++ R) := .of_sub (by rw [List.append_nil]; exact List.sublist_append_left l R)
theorem Pck.snoc2 {s : Sl} {r : Res} (h : s.res = r) (Ms : List Sl) (R : List Res) : Pck ((Ms ++ [s]).map Sl.res ++ R) (r :: (Ms.map Sl.res ++ R)) := by
  subst h; exact Pck.snoc Ms s R
theorem row_none {C : Ctx} {fr : List (Nat × Value)} {hp : List Res} {a : Act} {w : World} (ha : At C fr hp a w) {e size n c : Nat} {A : Option Addr} {xs : List Value} (hm : Res.row e size A n c xs ∈ hp) (hA : A = none) : n = 0 ∧ c = 0 := by
  subst hA
  rcases (ha.own _ hm).2 with ⟨h1, h2⟩ | ⟨g, cap, cur, h1, _⟩
  · injection h1 with _ h3 h4
    exact ⟨h2, h4⟩
  · cases h1
theorem dup_c (A : Option Addr) (c : Nat) (l : List Nat) (hl : l.length ≤ 400000) (w : World) (hn : A = none → l = [] ∧ c = 0) (hA : RdL ncell 1 w A l) :
    Calls Tryd.prog 27 #[.slice A l.length c] w fun e w' => ∃ A' c', e = .returned (.slice A' l.length c') ∧ Grew w w' [.row 3 1 A' l.length c' (ints l)] := by
  cases A with
  | none =>
    obtain ⟨rfl, rfl⟩ := hn rfl
    exact dup_nil w
  | some p => exact dup_some p c l hl w hA
theorem strs_mem {n : Nat} : ∀ {k : Nat} {x : List Nat}, x ∈ strs n k → x.length = k ∧ ∀ i ∈ x, i < n
  | 0, x, h => by
    simp [strs] at h
    subst h
    exact ⟨rfl, by simp⟩
  | k + 1, x, h => by
    unfold strs at h
    obtain ⟨y, hy, h2⟩ := List.mem_flatMap.1 h
    obtain ⟨z, hz, rfl⟩ := List.mem_map.1 h2
    obtain ⟨h3, h4⟩ := strs_mem hy
    refine ⟨by simp [h3], fun i hi => ?_⟩
    rcases List.mem_append.1 hi with h5 | h5
    · exact h4 i h5
    · simp at h5; subst h5; exact List.mem_range.1 hz
/-- A list, and one number more. -/
def extS (n : Nat) (x : List Nat) : List (List Nat) := (List.range n).map fun y => x ++ [y]
theorem strs_succ (n k : Nat) : strs n (k + 1) = (strs n k).flatMap (extS n) := rfl
theorem strs_le {n k : Nat} (hn : n ≤ 4) (hk : k ≤ 5) : (strs n k).length ≤ 1024 := by
  rw [strs_len]
  exact Nat.le_trans (Nat.pow_le_pow_left hn k) (show 4 ^ k ≤ 4 ^ 5 from Nat.pow_le_pow_right (by omega) hk)
theorem vals_get {Ls : List Sl} {x : Nat} {s : Sl} (h : Ls[x]? = some s) : (Ls.map Sl.val)[x * 1]? = some s.val := by
  rw [Nat.mul_one, List.getElem?_map, h]; rfl
end Go.Proofs.YtofkhehcnfiopaaDoor.N
namespace Go.Proofs.YtofkhehcnfiopaaDoor.N
open Go Go.RowKit Go.Proofs
set_option linter.unusedSectionVars false
variable [I : Sys]
theorem F.ent27 : Enters Tryd.prog 27 := enters_of Tryd.func27 rfl (by kernel_rfl)
theorem Strings_c (n k : Nat) (hn : n ≤ 4) (hk : k ≤ 5) (w : World) : Calls Tryd.prog 38 #[.int .i64 (n : Int), .int .i64 (k : Int)] w fun e w' => ∃ (Ls : List Sl) (A : Option Addr) (c : Nat), Ls.map Sl.l = strs n k ∧ e = .returned (.slice A Ls.length c) ∧ Grew w w' (.row 25 1 A Ls.length c (Ls.map Sl.val) :: Ls.map Sl.res) := by
  refine enter (N := 40) [(0, .int .i64 (n : Int)), (1, .int .i64 (k : Int))] Tryd.func38 rfl Tryd.ntmps38 rfl rfl ?_
  refine cod_seq ?_
  refine cod_region ?_
  refine lst_assign rfl rfl ?_
  refine lst_nil ?_
  refine ex_then ?_
  refine cod_seq ?_
  refine cod_region ?_
  refine lst_lit (vs := [(0, _)]) rfl rfl Tryd.underlying49 F.ti25 rfl rfl rfl ?_
  intro b10
  refine lst_as_rowN 1 1 rfl (by unfold maxLen; omega) (.head _) ?_
  refine lst_nilrow 3 1 ?_
  refine lst_assign rfl rfl ?_
  refine lst_nil ?_
  refine ex_then ?_
  refine cod_seq ?_
  refine cod_seq ?_
  refine cod_region ?_
  refine lst_assign rfl rfl ?_
  refine lst_nil ?_
  refine ex_then ?_
  refine cod_block ?_
  refine cod_loop' (G := Nat × Option Addr × Nat × List Sl) (fun g => g.1 ≤ k ∧ g.2.2.2.map Sl.l = strs n g.1) (fun g => k - g.1) (fun g => [(0, .int .i64 (n : Int)), (1, .int .i64 (k : Int)), (5, .slice g.2.1 g.2.2.2.length g.2.2.1), (6, .int .i64 (g.1 : Int))]) (fun g => .row 25 1 g.2.1 g.2.2.2.length g.2.2.1 (g.2.2.2.map Sl.val) :: (g.2.2.2.map Sl.res ++ [])) (0, some ⟨b10, 0, none⟩, 1, [⟨none, 0, []⟩]) ⟨Nat.zero_le _, rfl⟩ (by repeat (first | exact Sub.nil _ | refine Sub.cons rfl ?_)) (by (try simp only [List.map_cons, List.map_nil, List.cons_append, List.nil_append]); repeat (first | exact Pck.nil _ | exact Pck.refl _ | exact Pck.suffix _ _ | (apply Pck.cons; focus ((repeat (first | exact Rem.here _ | apply Rem.there)); done)) | refine Pck.skip _ ?_)) ?_
  rintro ⟨i, A, c, Ls⟩ hI
  dsimp only at hI ⊢
  refine cod_seq ?_
  refine cod_seq ?_
  refine cod_region ?_
  refine lst_move rfl rfl ?_
  refine lst_move rfl rfl ?_
  refine lst_int rfl rfl rfl bin_lss ?_
  refine lst_nil ?_
  refine ex_then ?_
  refine cod_cond_dec rfl (fun hc0 => ?_) (fun hc0 => ?_)
  · skip
    have hik : i < k := by omega
    have hLl : Ls.length = (strs n i).length := by rw [← hI.2, List.length_map]
    have hL1 := strs_le (n := n) (k := i) hn (by omega)
    refine cod_skip ?_
    refine ex_then ?_
    refine cod_seq ?_
    refine cod_block ?_
    refine cod_seq ?_
    refine cod_region ?_
    refine lst_assign rfl rfl ?_
    refine lst_nil ?_
    refine ex_then ?_
    refine cod_seq ?_
    refine cod_seq ?_
    refine cod_region ?_
    refine lst_assign rfl rfl ?_
    refine lst_nil ?_
    refine ex_then ?_
    refine cod_block ?_
    refine cod_nil 25 1 ?_
    refine cod_loop' (G := Nat × Option Addr × Nat × List Sl) (fun g => g.1 ≤ Ls.length ∧ g.2.2.2.map Sl.l = ((strs n i).take g.1).flatMap (extS n) ∧ g.2.2.2.length = g.1 * n) (fun g => Ls.length - g.1) (fun g => [(0, .int .i64 (n : Int)), (1, .int .i64 (k : Int)), (5, .slice A Ls.length c), (6, .int .i64 (i : Int)), (7, .slice g.2.1 g.2.2.2.length g.2.2.1), (8, .int .i64 (g.1 : Int))]) (fun g => .row 25 1 g.2.1 g.2.2.2.length g.2.2.1 (g.2.2.2.map Sl.val) :: .row 25 1 A Ls.length c (Ls.map Sl.val) :: (g.2.2.2.map Sl.res ++ (Ls.map Sl.res ++ []))) (0, none, 0, []) ⟨Nat.zero_le _, by simp, by simp⟩ (by repeat (first | exact Sub.nil _ | refine Sub.cons rfl ?_)) (by (try simp only [List.map_nil, List.nil_append]); repeat (first | exact Pck.nil _ | exact Pck.refl _ | exact Pck.suffix _ _ | (apply Pck.cons; focus ((repeat (first | exact Rem.here _ | apply Rem.there)); done)) | refine Pck.skip _ ?_)) ?_
    rintro ⟨x, A2, c2, Ms⟩ hM
    dsimp only at hM ⊢
    refine cod_seq ?_
    refine cod_seq ?_
    refine cod_region ?_
    refine lst_move rfl rfl ?_
    refine lst_move rfl rfl ?_
    refine lst_len rfl rfl Tryd.underlying49 ?_
    refine lst_int rfl rfl rfl bin_lss ?_
    refine lst_nil ?_
    refine ex_then ?_
    refine cod_cond_dec rfl (fun hc1 => ?_) (fun hc1 => ?_)
    · skip
      have hx' : x < Ls.length := by omega
      obtain ⟨s, hs⟩ : ∃ s, Ls[x]? = some s := ⟨_, List.getElem?_eq_getElem hx'⟩
      have hsx : (strs n i)[x]? = some s.l := by rw [← hI.2, List.getElem?_map, hs]; rfl
      have hsm : s ∈ Ls := List.mem_of_getElem? hs
      have hsl := (strs_mem (List.mem_of_getElem? hsx)).1
      refine cod_skip ?_
      refine ex_then ?_
      refine cod_seq ?_
      refine cod_block ?_
      refine cod_seq ?_
      refine cod_region ?_
      refine lst_assign rfl rfl ?_
      refine lst_nil ?_
      refine ex_then ?_
      refine cod_block ?_
      refine cod_loop' (G := Nat × Option Addr × Nat × List Sl) (fun g => g.1 ≤ n ∧ g.2.2.2.map Sl.l = ((strs n i).take x).flatMap (extS n) ++ (List.range g.1).map (fun y => s.l ++ [y]) ∧ g.2.2.2.length = x * n + g.1) (fun g => n - g.1) (fun g => [(0, .int .i64 (n : Int)), (1, .int .i64 (k : Int)), (5, .slice A Ls.length c), (6, .int .i64 (i : Int)), (7, .slice g.2.1 g.2.2.2.length g.2.2.1), (8, .int .i64 (x : Int)), (9, .int .i64 (g.1 : Int))]) (fun g => .row 25 1 g.2.1 g.2.2.2.length g.2.2.1 (g.2.2.2.map Sl.val) :: .row 25 1 A Ls.length c (Ls.map Sl.val) :: (g.2.2.2.map Sl.res ++ (Ls.map Sl.res ++ []))) (0, A2, c2, Ms) ⟨Nat.zero_le _, by rw [hM.2.1]; simp, by rw [hM.2.2]; rfl⟩ (by repeat (first | exact Sub.nil _ | refine Sub.cons rfl ?_)) (by repeat (first | exact Pck.nil _ | exact Pck.refl _ | (apply Pck.cons; focus ((repeat (first | exact Rem.here _ | apply Rem.there)); done)) | refine Pck.skip _ ?_)) ?_
      rintro ⟨y, A3, c3, Ns⟩ hN
      dsimp only at hN ⊢
      refine cod_seq ?_
      refine cod_seq ?_
      refine cod_region ?_
      refine lst_move rfl rfl ?_
      refine lst_move rfl rfl ?_
      refine lst_int rfl rfl rfl bin_lss ?_
      refine lst_nil ?_
      refine ex_then ?_
      refine cod_cond_dec rfl (fun hc2 => ?_) (fun hc2 => ?_)
      · skip
        have hxn : x * n ≤ 1024 * 4 := Nat.mul_le_mul (by omega) hn
        have hNl := hN.2.2
        refine cod_skip ?_
        refine ex_then ?_
        refine cod_seq ?_
        refine cod_block ?_
        refine cod_region ?_
        refine lst_move rfl rfl ?_
        refine lst_move rfl rfl ?_
        refine lst_move rfl rfl ?_
        refine lst_index_row (j := x) rfl rfl rfl Tryd.underlying49 F.ti25 rfl hx' rfl rfl ?_
        intro gA hgA
        refine lst_load_row (v := .slice s.A s.l.length s.c) rfl rfl F.one25 hgA (vals_get hs) ?_
        refine lst_fn (X := Option Addr × Nat) (vs := [_]) (p := fun _ => True) (val := fun y => .slice y.1 s.l.length y.2) (rs := fun y => [.row 3 1 y.1 s.l.length y.2 (ints s.l)]) rfl rfl F.ent27 (fun a w ha => by
          have hm : Res.row 3 1 s.A s.l.length s.c (ints s.l) ∈ Ls.map Sl.res := List.mem_map.2 ⟨s, hsm, rfl⟩
          exact (dup_c s.A s.c s.l (by omega) w (fun h => by obtain ⟨h1, h2⟩ := row_none ha (e := 3) (size := 1) (n := s.l.length) (c := s.c) (xs := ints s.l) (by simp [hm]) h; exact ⟨List.eq_nil_of_length_eq_zero h1, h2⟩) (row_reads ha (cells := ncell) (size := 1) (e := 3) (c := s.c) (n := s.l.length) (fun _ => rfl) (by rw [← ints_flat]; simp [hm]) rfl)).mono (fun e w' h => by obtain ⟨A', c', h1, h2⟩ := h; exact ⟨(A', c'), trivial, h1, h2⟩)) ?_
        rintro ⟨Ac, cc⟩ -
        dsimp only [List.cons_append, List.nil_append]
        refine lst_move rfl rfl ?_
        refine lst_lit (vs := [(0, _)]) rfl rfl Tryd.underlying25 F.ti3 rfl rfl rfl ?_
        intro b34
        refine lst_append rfl rfl rfl Tryd.underlying25 F.ti3 rfl rfl rfl (by unfold maxLen; omega) (by omega) ?_
        intro An cn
        refine lst_lit (vs := [(0, _)]) rfl rfl Tryd.underlying49 F.ti25 rfl rfl rfl ?_
        intro b36
        refine lst_append rfl rfl rfl Tryd.underlying49 F.ti25 rfl rfl rfl (by unfold maxLen; omega) (by omega) ?_
        intro A4 c4
        refine lst_assign rfl rfl ?_
        refine lst_nil ?_
        refine ex_block_normal ?_
        refine ex_then ?_
        refine cod_region ?_
        refine lst_move rfl rfl ?_
        refine lst_int rfl rfl rfl (fun w => bin_add w (wrap_i64' _ (by omega) (by omega))) ?_
        refine lst_assign rfl rfl ?_
        refine lst_nil ?_
        have hml : (Ns ++ [(⟨An, cn, s.l ++ [y]⟩ : Sl)]).length = Ns.length + 1 := by simp
        have hmv : (Ns ++ [(⟨An, cn, s.l ++ [y]⟩ : Sl)]).map Sl.val = Ns.map Sl.val ++ [.slice An (s.l.length + 1) cn] := by simp [Sl.val]
        have hsr : (⟨An, cn, s.l ++ [y]⟩ : Sl).res = .row 3 1 An (s.l.length + 1) cn (ints s.l ++ [.int .i64 (y : Int)]) := by simp [Sl.res, ints_snoc]
        refine ex_round' (y + 1, A4, c4, Ns ++ [(⟨An, cn, s.l ++ [y]⟩ : Sl)]) ⟨by omega, by rw [List.map_append, hN.2.1, List.range_succ]; simp, by rw [hml]; dsimp only; omega⟩ (by (try dsimp only); omega) (by dsimp only; rw [hml]; repeat (first | exact Sub.nil _ | refine Sub.cons rfl ?_)) (by dsimp only; rw [hml, hmv]; repeat (first | exact Pck.nil _ | exact Pck.refl _ | exact Pck.suffix _ _ | exact Pck.snoc2 hsr _ _ | (apply Pck.cons; focus ((repeat (first | exact Rem.here _ | apply Rem.there)); done)) | refine Pck.skip _ ?_))
      · skip
        obtain rfl : y = n := by omega
        refine cod_exit ?_
        refine ex_then_exit ?_
        refine ex_then_exit ?_
        refine ex_block_exit ?_
        refine ex_block_normal ?_
        refine ex_then ?_
        refine cod_region ?_
        refine lst_move rfl rfl ?_
        refine lst_int rfl rfl rfl (fun w => bin_add w (wrap_i64' _ (by omega) (by omega))) ?_
        refine lst_assign rfl rfl ?_
        refine lst_nil ?_
        refine ex_round' (x + 1, A3, c3, Ns) ⟨by omega, by rw [List.take_add_one, hsx, List.flatMap_append, hN.2.1]; simp [extS], by rw [hN.2.2, Nat.succ_mul]⟩ (by (try dsimp only); omega) (by (try dsimp only); repeat (first | exact Sub.nil _ | refine Sub.cons rfl ?_)) (by (try dsimp only); repeat (first | exact Pck.nil _ | exact Pck.refl _ | (apply Pck.cons; focus ((repeat (first | exact Rem.here _ | apply Rem.there)); done)) | refine Pck.skip _ ?_))
    · skip
      obtain rfl : x = Ls.length := by omega
      have hMs : Ms.map Sl.l = strs n (i + 1) := by rw [strs_succ, hM.2.1, List.take_of_length_le (by omega)]
      refine cod_exit ?_
      refine ex_then_exit ?_
      refine ex_then_exit ?_
      refine ex_block_exit ?_
      refine ex_then ?_
      refine cod_region ?_
      refine lst_move rfl rfl ?_
      refine lst_assign rfl rfl ?_
      refine lst_nil ?_
      refine ex_block_normal ?_
      refine ex_then ?_
      refine cod_region ?_
      refine lst_move rfl rfl ?_
      refine lst_int rfl rfl rfl (fun w => bin_add w (wrap_i64' _ (by omega) (by omega))) ?_
      refine lst_assign rfl rfl ?_
      refine lst_nil ?_
      refine ex_round' (i + 1, A2, c2, Ms) ⟨by omega, hMs⟩ (by (try dsimp only); omega) (by (try dsimp only); repeat (first | exact Sub.nil _ | refine Sub.cons rfl ?_)) (by (try dsimp only); repeat (first | exact Pck.nil _ | exact Pck.refl _ | exact Pck.suffix _ _ | exact Pck.pre _ _ | (apply Pck.cons; focus ((repeat (first | exact Rem.here _ | apply Rem.there)); done)) | refine Pck.skip _ ?_))
  · skip
    refine cod_exit ?_
    refine ex_then_exit ?_
    refine ex_then_exit ?_
    refine ex_block_exit ?_
    refine ex_then ?_
    refine cod_seq ?_
    refine cod_region ?_
    refine lst_move rfl rfl ?_
    refine lst_assign rfl rfl ?_
    refine lst_nil ?_
    refine ex_then ?_
    refine cod_ret ?_
    obtain rfl : i = k := by omega
    rw [List.append_nil]
    exact ex_ret rfl (fun a w ha => res_one rfl rfl ha) (fun a w ha => ⟨Ls, A, c, hI.2, rfl, ha.grown (List.Sublist.refl _)⟩)

end Go.Proofs.YtofkhehcnfiopaaDoor.N
namespace Go.Proofs.YtofkhehcnfiopaaDoor.N
open Go Go.RowKit Go.Proofs
set_option linter.unusedSectionVars false
variable [I : Sys]
theorem Pck.swap (l R : List Res) : Pck (R ++ l) (l ++ R) := .perm List.perm_append_comm (.refl _)
theorem agd_ok {ags : List Ag} (hok : Oks ags) {i : Nat} (hi : i < ags.length) : (ags.getD i default).ok := by
  rw [List.getD_eq_getElem?_getD, List.getElem?_eq_getElem hi]
  exact hok.2 _ (List.getElem_mem hi)
theorem followN_lt {ags : List Ag} (hok : Oks ags) : ∀ (way : List Nat) (f g : Nat), f < 64 → followN ags f way = some g → g < 64
  | [], f, g, hf, h => by
    have : f = g := Option.some.inj h
    omega
  | i :: l, f, g, hf, h => by
    unfold followN at h
    split at h
    · rename_i hc
      exact followN_lt hok l _ _ (putN_lt (agd_ok hok hc.1) hf) h
    · cases h
theorem followV_lt {ags : List Ag} (hok : Oks ags) {way : List Nat} {f : Nat} (hf : f < 64) : followV (followN ags f way) < 64 := by
  cases h : followN ags f way with
  | none => show 0 < 64; omega
  | some g => exact followN_lt hok way f g hf h
/-- A list of agents that clears both melts. -/
def clears (ags : List Ag) (a b p : Nat) (v : List Nat) : Bool :=
  (followN ags a v).isSome && (followN ags b v).isSome && decide (nn (followV (followN ags a v)) p = 0) && decide (nn (followV (followN ags b v)) p = 0)
/-! Lists in their order. -/
theorem strs_all {n : Nat} : ∀ {k : Nat} {v : List Nat}, Wd n v → v.length = k → v ∈ strs n k
  | 0, v, _, h => by
    obtain rfl : v = [] := List.eq_nil_of_length_eq_zero h
    simp [strs]
  | k + 1, v, hv, h => by
    rcases snoc_cases v with rfl | ⟨u, i, rfl⟩
    · simp at h
    · obtain ⟨h1, h2⟩ := Wd.snoc.1 hv
      unfold strs
      exact List.mem_flatMap.2 ⟨u, strs_all h1 (by simpa using h), List.mem_map.2 ⟨i, List.mem_range.2 h2, rfl⟩⟩
theorem strs_sorted (n : Nat) : ∀ k, (strs n k).Pairwise (fun u v => code n u < code n v)
  | 0 => by simp [strs]
  | k + 1 => by
    unfold strs
    rw [List.pairwise_flatMap]
    refine ⟨fun x _ => ?_, ?_⟩
    · rw [List.pairwise_map]
      refine List.Pairwise.imp ?_ List.pairwise_lt_range
      intro i j hij
      rw [code_snoc, code_snoc]
      omega
    · refine List.Pairwise.imp ?_ (strs_sorted n k)
      intro u v huv x hx y hy
      obtain ⟨i, hi, rfl⟩ := List.mem_map.1 hx
      obtain ⟨j, _, rfl⟩ := List.mem_map.1 hy
      rw [code_snoc, code_snoc]
      exact code_snoc_lt huv (List.mem_range.1 hi)
theorem strs_le_code {n k i j : Nat} {u v : List Nat} (hu : (strs n k)[i]? = some u) (hv : (strs n k)[j]? = some v) (hij : i ≤ j) : code n u ≤ code n v := by
  rcases Nat.lt_or_ge i j with h | h
  · obtain ⟨h1, e1⟩ := List.getElem?_eq_some_iff.1 hu
    obtain ⟨h2, e2⟩ := List.getElem?_eq_some_iff.1 hv
    have := List.pairwise_iff_getElem.1 (strs_sorted n k) i j h1 h2 h
    rw [e1, e2] at this
    omega
  · obtain rfl : i = j := by omega
    rw [hu] at hv
    cases hv
    exact Nat.le_refl _
end Go.Proofs.YtofkhehcnfiopaaDoor.N
namespace Go.Proofs.YtofkhehcnfiopaaDoor.N
open Go Go.RowKit Go.Proofs
set_option linter.unusedSectionVars false
variable [I : Sys]
theorem F.ent21 : Enters Tryd.prog 21 := enters_of Tryd.func21 rfl (by kernel_rfl)
theorem F.ent22 : Enters Tryd.prog 22 := enters_of Tryd.func22 rfl (by kernel_rfl)
theorem F.ent26 : Enters Tryd.prog 26 := enters_of Tryd.func26 rfl (by kernel_rfl)
theorem F.ent34 : Enters Tryd.prog 34 := enters_of Tryd.func34 rfl (by kernel_rfl)
theorem F.ent36 : Enters Tryd.prog 36 := enters_of Tryd.func36 rfl (by kernel_rfl)
theorem F.ent37 : Enters Tryd.prog 37 := enters_of Tryd.func37 rfl (by kernel_rfl)
theorem F.ent38 : Enters Tryd.prog 38 := enters_of Tryd.func38 rfl (by kernel_rfl)
theorem F.pl68 : Places Tryd.prog 68 [(0, 1), (1, 1), (2, 1)] := .inl ⟨_, Tryd.underlying68, by kernel_rfl⟩
theorem F.ti68 : TI Tryd.prog 68 (.agg [.slice none 0 0, .int .i64 0, .int .u64 0].toArray) 3 40 := TI.of (by kernel_rfl)
theorem NewHat_c (nA : Option Addr) (n nc : Nat) (w : World) : Calls Tryd.prog 22 #[.slice nA n nc] w fun e w' => ∃ b, e = .returned (.pointer (some ⟨b, 0, none⟩)) ∧ Grew w w' [.blk b (hatO nA n nc 0 11400714819323198485)] := by
  refine enter (N := 6) [(0, .slice nA n nc)] Tryd.func22 rfl Tryd.ntmps22 rfl rfl ?_
  refine cod_seq ?_
  refine cod_region ?_
  refine lst_assign rfl rfl ?_
  refine lst_nil ?_
  refine ex_then ?_
  refine cod_seq ?_
  refine cod_region ?_
  refine lst_move rfl rfl ?_
  refine lst_struct (vs := [(0, _), (2, _)]) (l' := [_, _, _]) rfl rfl F.ti68 F.pl68 (.cons rfl rfl (.cons rfl rfl (.nil _))) rfl ?_
  refine lst_box rfl rfl ?_
  intro b5
  refine lst_assign rfl rfl ?_
  refine lst_nil ?_
  refine ex_then ?_
  refine cod_ret ?_
  exact ex_ret rfl (fun a w ha => res_one rfl rfl ha) (fun a w ha => ⟨b5, rfl, ha.grown (by repeat (first | exact List.Sublist.refl _ | exact List.nil_sublist _ | refine List.Sublist.cons_cons _ ?_ | refine List.Sublist.cons _ ?_))⟩)

end Go.Proofs.YtofkhehcnfiopaaDoor.N
namespace Go.Proofs.YtofkhehcnfiopaaDoor.N
open Go Go.RowKit Go.Proofs
set_option linter.unusedSectionVars false
variable [I : Sys]
variable {ags : List Ag} {a b : Nat}
/-- A list whose last agent may be put to just one of both melts. -/
def tq (ags : List Ag) (a b : Nat) (v : List Nat) : Bool :=
  (followN ags a v.dropLast).isSome && (followN ags b v.dropLast).isSome && ((followN ags a v).isSome != (followN ags b v).isSome)
theorem tq_sym (v : List Nat) : tq ags a b v = tq ags b a v := by
  unfold tq
  cases (followN ags a v.dropLast).isSome <;> cases (followN ags b v.dropLast).isSome <;> cases (followN ags a v).isSome <;> cases (followN ags b v).isSome <;> rfl
theorem tq_self (v : List Nat) : tq ags a a v = false := by
  unfold tq
  simp
def TellsS (ags : List Ag) (a b : Nat) : Option Wk → Prop
  | none => ∀ v, v.length ≤ 5 → tq ags a b v = false
  | some k => tq ags a b (k.how ++ [tellsI ags k.team]) = true ∧ Wd ags.length (k.how ++ [tellsI ags k.team]) ∧ (k.how ++ [tellsI ags k.team]).length ≤ 5 ∧ ∀ v, tq ags a b v = true → v.length ≤ 5 → code ags.length (k.how ++ [tellsI ags k.team]) ≤ code ags.length v
theorem TellsS.sym {o : Option Wk} (h : TellsS ags a b o) : TellsS ags b a o := by
  cases o with
  | none => exact fun v hv => by rw [tq_sym]; exact h v hv
  | some k => exact ⟨by rw [tq_sym]; exact h.1, h.2.1, h.2.2.1, fun v hv => h.2.2.2 v (by rw [tq_sym]; exact hv)⟩
theorem TellsS.self {o : Option Wk} (h : TellsS ags a a o) : o = none := by
  cases o with
  | none => rfl
  | some k => have := h.1; rw [tq_self] at this; cases this
theorem TellsS.at {o : Option Wk} (h : TellsS ags a b o) {k i : Nat} {v : List Nat} (hk : k ≤ 5) (hv : (strs ags.length k)[i]? = some v) (hc : tq ags a b v = true) (h0 : ∀ u, Wd ags.length u → u.length < k → tq ags a b u = false)
    (h1 : ∀ j u, j < i → (strs ags.length k)[j]? = some u → tq ags a b u = false) : o.isSome = true ∧ tellsL ags o = v := by
  have hvl := (strs_mem (List.mem_of_getElem? hv)).1
  have hvw : Wd ags.length v := (strs_mem (List.mem_of_getElem? hv)).2
  cases o with
  | none => have := h v (by omega); rw [hc] at this; cases this
  | some w =>
    refine ⟨rfl, ?_⟩
    obtain ⟨g1, g2, g3, g4⟩ := h
    have hle := g4 v hc (by omega)
    show w.how ++ [tellsI ags w.team] = v
    rcases Nat.lt_trichotomy (w.how ++ [tellsI ags w.team]).length k with hl | hl | hl
    · rw [h0 _ g2 hl] at g1; cases g1
    · obtain ⟨j, hj⟩ := List.getElem?_of_mem (strs_all g2 hl)
      rcases Nat.lt_or_ge j i with h2 | h2
      · rw [h1 j _ h2 hj] at g1; cases g1
      · exact code_inj ags.length _ _ _ rfl g2 hvw (Nat.le_antisymm hle (strs_le_code hv hj h2))
    · have := code_lt_of_len ags.length _ (w.how ++ [tellsI ags w.team]) v rfl (by omega) hvw
      omega
end Go.Proofs.YtofkhehcnfiopaaDoor.N
namespace Go.Proofs.YtofkhehcnfiopaaDoor.N
open Go Go.RowKit Go.Proofs
set_option linter.unusedSectionVars false
variable [I : Sys]
variable {C : Ctx} {fr : List (Nat × Value)} {hp : List Res} {ops : Array Oper} {Q : Exit → Act → World → Prop} {rest : List Oper} {d : Nat} {ty : TypeId} {pos : String} {after : Array Edge}
theorem RdL.take {α : Type} {cells : α → List Value} {size : Nat} {w : World} {A : Option Addr} {l : List α} (h : RdL cells size w A l) (n : Nat) : RdL cells size w A (l.take n) := fun hl => by
  rw [List.length_take] at hl
  obtain ⟨b, o, h1, h2, h3⟩ := h (by omega)
  refine ⟨b, o, h1, h2, fun k x hk j u hu => h3 k x ?_ j u hu⟩
  rw [List.getElem?_take] at hk
  split at hk
  · exact hk
  · cases hk
theorem RdL.drop {α : Type} {cells : α → List Value} {size : Nat} {w : World} {A : Option Addr} {l : List α} (h : RdL cells size w A l) {n cap : Nat} (hc : l.length ≤ cap) : RdL cells size w (if cap = n then A else A.map (·.add (n * size))) (l.drop n) := fun hl => by
  rw [List.length_drop] at hl
  obtain ⟨b, o, h1, h2, h3⟩ := h (by omega)
  rw [if_neg (by omega), h1]
  refine ⟨b, o + n * size, by rw [Option.map_some, addr_add], h2, fun k x hk j u hu => ?_⟩
  rw [List.getElem?_drop] at hk
  have := h3 (n + k) x hk j u hu
  rw [← this]
  congr 2
  rw [Nat.add_mul]
  omega
end Go.Proofs.YtofkhehcnfiopaaDoor.N
namespace Go.Proofs.YtofkhehcnfiopaaDoor.N
open Go Go.RowKit Go.Proofs
set_option linter.unusedSectionVars false
variable [I : Sys]
/-! The cheapest ways: prices that rounds come to are the least ones. -/
def lexle (c k c' k' : Nat) : Prop := c < c' ∨ (c = c' ∧ k ≤ k')
theorem lexle.trans {a b c d e f : Nat} (h : lexle a b c d) (h' : lexle c d e f) : lexle a b e f := by
  unfold lexle at *
  omega
theorem lexle.refl (a b : Nat) : lexle a b a b := Or.inr ⟨rfl, Nat.le_refl _⟩
theorem lexle.add {c k c' k' : Nat} (h : lexle c k c' k') (x : Nat) : lexle (c + x) (k + 1) (c' + x) (k' + 1) := by
  unfold lexle at *
  omega
theorem lexle.sub {c k c' k' x : Nat} (h : lexle (c + x) (k + 1) (c' + x) (k' + 1)) : lexle c k c' k' := by
  unfold lexle at *
  omega
theorem lexle.anti {c k c' k' : Nat} (h : lexle c k c' k') (h' : lexle c' k' c k) : c = c' ∧ k = k' := by
  unfold lexle at *
  omega
/-- What some way that clears a melt costs, and how many agents it has. -/
inductive Wy (ags : List Ag) (used p : Nat) : Nat → Nat → Nat → Prop
  | done {f : Nat} : nn f p = 0 → Wy ags used p f 0 0
  | step {f i c k : Nat} : i ∈ canTo ags used f ags.length → Wy ags used p (putN (ags.getD i default) f) c k → Wy ags used p f (c + (ags.getD i default).cost) (k + 1)
def Has (ps : List Pr) (f c k : Nat) : Prop := (ps.getD f default).known = true ∧ lexle (ps.getD f default).cost (ps.getD f default).puts c k
def Snd (ags : List Ag) (used p : Nat) (ps : List Pr) : Prop := ∀ f, f < 64 → (ps.getD f default).known = true → Wy ags used p f (ps.getD f default).cost (ps.getD f default).puts
def Le (ps qs : List Pr) : Prop := ∀ f, (ps.getD f default).known = true → Has qs f (ps.getD f default).cost (ps.getD f default).puts
theorem Le.refl (ps : List Pr) : Le ps ps := fun _ h => ⟨h, lexle.refl _ _⟩
theorem Has.le {ps qs : List Pr} {f c k : Nat} (h : Has ps f c k) (hl : Le ps qs) : Has qs f c k := by
  obtain ⟨h1, h2⟩ := h
  obtain ⟨h3, h4⟩ := hl f h1
  exact ⟨h3, h4.trans h2⟩
theorem Le.trans {ps qs rs : List Pr} (h : Le ps qs) (h' : Le qs rs) : Le ps rs := fun f hf => (h f hf).le h'
theorem lessP_true {a b : Pr} (h : lessP a b = true) : a.known = true ∧ (b.known = true → lexle a.cost a.puts b.cost b.puts ∧ ¬ lexle b.cost b.puts a.cost a.puts) := by
  unfold lessP at h
  simp at h
  refine ⟨h.1, fun hb => ?_⟩
  have h2 := h.2
  rw [hb] at h2
  simp at h2
  unfold lexle
  omega
theorem getP_set {ps : List Pr} {f g : Nat} {x : Pr} (hf : f < ps.length) : (ps.set f x).getD g default = if f = g then x else ps.getD g default := by
  rw [List.getD_eq_getElem?_getD, List.getElem?_set, List.getD_eq_getElem?_getD]
  by_cases e : f = g
  · subst e
    rw [if_pos rfl, if_pos rfl, if_pos hf]; rfl
  · rw [if_neg e, if_neg e]
variable {ags : List Ag} {used p : Nat}
theorem relax_len {f i : Nat} {s : List Pr × Bool} : (relax ags f s i).1.length = s.1.length := by
  unfold relax
  split
  · simp
  · rfl
theorem relaxF_len {f : Nat} : ∀ (l : List Nat) (s : List Pr × Bool), (relaxF ags f s l).1.length = s.1.length
  | [], _ => rfl
  | i :: l, s => by
    have := relaxF_len (f := f) l (relax ags f s i)
    unfold relaxF at this ⊢
    rw [List.foldl_cons, this, relax_len]
theorem roundP_len {ps : List Pr} : ∀ k, (roundP ags used ps k).1.length = ps.length
  | 0 => rfl
  | k + 1 => by
    unfold roundP
    rw [relaxF_len, roundP_len k]
theorem initP_len (p k : Nat) : (initP p k).length = 64 := by simp [initP]
theorem iterP_len : ∀ j, (iterP ags used p j).length = 64
  | 0 => initP_len p 64
  | j + 1 => by
    unfold iterP
    rw [roundP_len, iterP_len j]
/-! No price rises. -/
/-! Each price is that of a way. -/
theorem Snd.relax {f i : Nat} {s : List Pr × Bool} (hok : Oks ags) (h : Snd ags used p s.1) (hl : s.1.length = 64) (hf : f < 64) (hi : i ∈ canTo ags used f ags.length) : Snd ags used p (relax ags f s i).1 := by
  unfold Go.Proofs.YtofkhehcnfiopaaDoor.N.relax
  split
  · rename_i hlt
    obtain ⟨h1, _⟩ := lessP_true hlt
    intro g hg hk
    rw [getP_set (by omega)] at hk ⊢
    by_cases e : f = g
    · subst e
      rw [if_pos rfl] at hk ⊢
      have ha : (ags.getD i default).ok := by
        have := (canTo_mem hi).1
        rw [List.getD_eq_getElem?_getD, List.getElem?_eq_getElem this]
        exact hok.2 _ (List.getElem_mem this)
      exact Wy.step hi (h _ (putN_lt ha hf) h1)
    · rw [if_neg e] at hk ⊢
      exact h g hg hk
  · exact h
theorem Snd.relaxF {f : Nat} (hok : Oks ags) (hf : f < 64) : ∀ (l : List Nat) (s : List Pr × Bool), (∀ i ∈ l, i ∈ canTo ags used f ags.length) → s.1.length = 64 → Snd ags used p s.1 → Snd ags used p (relaxF ags f s l).1
  | [], s, _, _, h => h
  | i :: l, s, hm, hl, h => by
    have h1 := Snd.relaxF hok hf l (Go.Proofs.YtofkhehcnfiopaaDoor.N.relax ags f s i) (fun j hj => hm j (List.mem_cons_of_mem _ hj)) (by rw [relax_len, hl]) (h.relax hok hl hf (hm i List.mem_cons_self))
    unfold Go.Proofs.YtofkhehcnfiopaaDoor.N.relaxF at h1 ⊢
    rw [List.foldl_cons]
    exact h1
theorem Snd.round {ps : List Pr} (hok : Oks ags) (hl : ps.length = 64) (h : Snd ags used p ps) : ∀ k, k ≤ 64 → Snd ags used p (roundP ags used ps k).1
  | 0, _ => h
  | k + 1, hk => by
    unfold roundP
    exact Snd.relaxF hok (by omega) _ _ (fun _ hi => hi) (by rw [roundP_len, hl]) (Snd.round hok hl h k (by omega))
theorem initP_getD {f : Nat} (hf : f < 64) : (initP p 64).getD f default = ⟨0, 0, decide (nn f p = 0)⟩ := by
  unfold initP
  simp [List.getD_eq_getElem?_getD, hf]
theorem Snd.iter (hok : Oks ags) : ∀ j, Snd ags used p (iterP ags used p j)
  | 0 => by
    intro f hf hk
    unfold iterP at hk ⊢
    rw [initP_getD hf] at hk ⊢
    exact Wy.done (by simpa using hk)
  | j + 1 => by
    unfold iterP
    exact (Snd.iter hok j).round hok (iterP_len j) 64 (Nat.le_refl _)
/-! What a round comes to. -/
/-! The least price, and that its way is short. -/
theorem least {q : Nat → Prop} : ∀ n, q n → ∃ m, q m ∧ ∀ k, q k → m ≤ k := by
  intro n
  induction n using Nat.strongRecOn with
  | ind n ih =>
    intro hn
    by_cases h : ∃ m, m < n ∧ q m
    · obtain ⟨m, h1, h2⟩ := h
      exact ih m h1 h2
    · exact ⟨n, hn, fun k hk => Nat.le_of_not_lt fun hlt => h ⟨k, hlt, hk⟩⟩
def Opt (ags : List Ag) (used p f c k : Nat) : Prop := Wy ags used p f c k ∧ ∀ c' k', Wy ags used p f c' k' → lexle c k c' k'
theorem Opt.ex {f c k : Nat} (h : Wy ags used p f c k) : ∃ c' k', Opt ags used p f c' k' := by
  obtain ⟨c0, ⟨k0, h0⟩, h1⟩ := least (q := fun c => ∃ k, Wy ags used p f c k) c ⟨k, h⟩
  obtain ⟨k1, h2, h3⟩ := least (q := fun k => Wy ags used p f c0 k) k0 h0
  refine ⟨c0, k1, h2, fun c' k' h' => ?_⟩
  have := h1 c' ⟨k', h'⟩
  rcases Nat.lt_or_eq_of_le this with h4 | h4
  · exact Or.inl h4
  · subst h4
    exact Or.inr ⟨rfl, h3 k' h'⟩
theorem Opt.next (hok : Oks ags) {f c k : Nat} (hf : f < 64) (h : Opt ags used p f c (k + 1)) : ∃ i c', i ∈ canTo ags used f ags.length ∧ c = c' + (ags.getD i default).cost ∧ putN (ags.getD i default) f < 64 ∧ Opt ags used p (putN (ags.getD i default) f) c' k := by
  obtain ⟨h1, h2⟩ := h
  cases h1 with
  | @step _ i c' _ hi hw =>
    have ha : (ags.getD i default).ok := by
      have := (canTo_mem hi).1
      rw [List.getD_eq_getElem?_getD, List.getElem?_eq_getElem this]
      exact hok.2 _ (List.getElem_mem this)
    exact ⟨i, c', hi, rfl, putN_lt ha hf, hw, fun c'' k'' h'' => (h2 _ _ (Wy.step hi h'')).sub⟩
theorem Opt.uniq {f c k c' k' : Nat} (h : Opt ags used p f c k) (h' : Opt ags used p f c' k') : c = c' ∧ k = k' := lexle.anti (h.2 _ _ h'.1) (h'.2 _ _ h.1)
theorem countP_lt {α : Type} {a b : α → Bool} {l : List α} (hab : ∀ x, a x = true → b x = true) : (∃ x ∈ l, b x = true ∧ a x = false) → l.countP a < l.countP b := by
  induction l with
  | nil => rintro ⟨x, h, _⟩; cases h
  | cons y l ih =>
    rintro ⟨x, hx, h1, h2⟩
    have hle : l.countP a ≤ l.countP b := List.countP_mono_left (fun z _ => hab z)
    rw [List.countP_cons, List.countP_cons]
    rcases List.mem_cons.1 hx with e | e
    · subst e
      rw [h1, h2]
      simp
      omega
    · have := ih ⟨x, e, h1, h2⟩
      by_cases ha : a y = true
      · rw [ha, hab y ha]; simp; exact this
      · have : (if a y = true then 1 else 0) = 0 := if_neg ha
        rw [this]
        omega
open Classical in
theorem Opt.level (hok : Oks ags) : ∀ (k f c : Nat), f < 64 → Opt ags used p f c k → k + 1 ≤ (List.range 64).countP (fun g => decide (∃ c k', k' ≤ k ∧ Opt ags used p g c k'))
  | 0, f, c, hf, h => by
    have : 0 < (List.range 64).countP (fun g => decide (∃ c k', k' ≤ 0 ∧ Opt ags used p g c k')) :=
      List.countP_pos_iff.2 ⟨f, List.mem_range.2 hf, by simp only [decide_eq_true_eq]; exact ⟨c, 0, Nat.le_refl _, h⟩⟩
    omega
  | k + 1, f, c, hf, h => by
    obtain ⟨i, c', _, _, hg, ho⟩ := h.next hok hf
    have h1 := Opt.level hok k _ _ hg ho
    have h2 : (List.range 64).countP (fun g => decide (∃ c k', k' ≤ k ∧ Opt ags used p g c k')) < (List.range 64).countP (fun g => decide (∃ c k', k' ≤ k + 1 ∧ Opt ags used p g c k')) := by
      refine countP_lt (fun x hx => ?_) ⟨f, List.mem_range.2 hf, ?_, ?_⟩
      · simp only [decide_eq_true_eq] at hx ⊢
        obtain ⟨c, k', h1, h2⟩ := hx
        exact ⟨c, k', by omega, h2⟩
      · simp only [decide_eq_true_eq]
        exact ⟨c, k + 1, Nat.le_refl _, h⟩
      · simp only [decide_eq_false_iff_not]
        rintro ⟨c2, k2, h3, h4⟩
        have := (h4.uniq h).2
        omega
    omega
theorem Opt.short (hok : Oks ags) {k f c : Nat} (hf : f < 64) (h : Opt ags used p f c k) : k ≤ 63 := by
  have h1 := Opt.level hok k f c hf h
  have h2 := List.countP_le_length (l := List.range 64) (p := fun g => @decide (∃ c k', k' ≤ k ∧ Opt ags used p g c k') (Classical.propDecidable _))
  rw [List.length_range] at h2
  omega
/-! A round without change. -/
end Go.Proofs.YtofkhehcnfiopaaDoor.N
