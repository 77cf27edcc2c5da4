/- Parts of the walk of a law: F15, Kit, F16, Kit2, F17, Kit3, F18, Both5, F19, Leave, RowK. -/
import Derived.Test.YtofkhehcnfiopaaDoorKFiningBoth3
import Derived.Test.YtofkhehcnfiopaaDoorProg
import Derived.Conc.LeavingOf
import Derived.Leaving
import Derived.Test.YtofkhehcnfiopaaDoorKFiningBoth1
import Derived.Test.YtofkhehcnfiopaaDoorRows
import Derived.ChangeSame
import Derived.ChangeVars
import Derived.JoinedOf
import Derived.RowKit
import Derived.RowKitTokens
import Derived.LaidLaws
import Derived.LaidHandle
import Derived.Stop.Joined
import Derived.ProofKit
import Derived.SizedLaws
import Derived.OpenShut
import Derived.SevenTiedAt
import Derived.Conc.Holds
namespace Go.Proofs.YtofkhehcnfiopaaDoor.N
open Go Go.RowKit Go.Proofs
theorem F.ent63 : Enters Tryd.prog 63 := enters_of Tryd.func63 rfl (by kernel_rfl)
theorem F.ent87 : Enters Tryd.prog 87 := enters_of Tryd.func87 rfl (by kernel_rfl)
theorem AgentOf_c {C : Ctx} {fr : List (Nat × Value)} {T : List Res} {a : Act} {w : World} (hC : C.P = Tryd.prog) {hb tk st nc : Nat} {nA : Option Addr} {nums : List Int} (hB : C.w0.heap.size = C.B) (hN : RdL icell 1 C.w0 nA nums) (htk : tk ≤ 990000) (hst : st < 18446744073709551616) {few : Nat} (hf1 : 1 ≤ few) (hfew : few ≤ 6) (ha : At C fr (.blk hb (hatO nA nums.length nc (tk) (st)) :: T) a w) : Calls C.P 50 #[.pointer (some ⟨hb, 0, none⟩), .int .i64 (few : Int)] w fun e w' => ∃ (tk' st' : Nat) (x : Ag), tk' ≤ tk + 40 ∧ st' < 18446744073709551616 ∧ x.ok ∧ e = .returned (.agg [.int .i64 (x.needs : Int), .int .i64 (x.no : Int), .int .i64 (x.takes : Int), .int .i64 (x.leaves : Int), .int .i64 (x.cost : Int)].toArray) ∧ At C fr (.blk hb (hatO nA nums.length nc (tk') (st')) :: T) a w' := by
  obtain ⟨P, B, w0, N0, ds⟩ := C
  obtain rfl : P = Tryd.prog := hC
  (try dsimp only at hB)
  (try dsimp only at hN)
  refine enter_in (N := 53) [(0, .pointer (some ⟨hb, 0, none⟩)), (1, .int .i64 (few : Int))] ha Tryd.func50 rfl Tryd.ntmps50 rfl rfl ?_
  refine cod_seq ?_
  refine cod_region ?_
  refine lst_alloc rfl F.ti24 ?_
  intro b4
  refine lst_nil ?_
  refine ex_then ?_
  refine cod_seq ?_
  refine cod_ghost (G := Nat × Nat × Nat × Nat × Nat) (fun g => g.2.1 < 18446744073709551616 ∧ g.2.2.1 < 64 ∧ g.2.2.2.1 < 64 ∧ 1 ≤ g.2.2.2.2 ∧ g.2.2.2.2 ≤ 9) (fun g => [(0, .pointer (some ⟨hb, 0, none⟩)), (1, .int .i64 (few : Int)), (4, .pointer (some ⟨b4, 0, none⟩)), (5, .pointer (some ⟨g.1, 0, none⟩))]) (fun g => .blk hb (hatO nA nums.length nc (tk + 1 + few + few + 1) (g.2.1)) :: .blk g.1 (.cells [.int .i64 ((0 : Nat) : Int), .int .i64 ((0 : Nat) : Int), .int .i64 (g.2.2.1 : Int), .int .i64 (g.2.2.2.1 : Int), .int .i64 (g.2.2.2.2 : Int)].toArray 24 (0, 0)) :: .blk b4 (.cells [.int .i64 0, .int .i64 0, .int .i64 0, .int .i64 0, .int .i64 0].toArray 24 (0, 0)) :: T) ?_ ?_
  · skip
    refine any_begin [.b hb] F.follows 17 rfl [false, false, false, false, false, false, false, false, false, false, false, false, false, false, false, false, false] rfl ?_
    refine any_take (listed' := [true, false, false, false, false, false, false, false, false, false, false, false, false, false, false, false, false].toArray) 0 rfl rfl rfl (by kernel_rfl) (by kernel_rfl) (by kernel_rfl) (by repeat (first | exact List.Sublist.refl _ | exact List.nil_sublist _ | refine List.Sublist.cons_cons _ ?_ | refine List.Sublist.cons _ ?_)) (yld_move rfl) rfl ?_
    refine any_take (listed' := [true, true, false, false, false, false, false, false, false, false, false, false, false, false, false, false, false].toArray) 1 rfl rfl rfl (by kernel_rfl) (by kernel_rfl) (by kernel_rfl) (by repeat (first | exact List.Sublist.refl _ | exact List.nil_sublist _ | refine List.Sublist.cons_cons _ ?_ | refine List.Sublist.cons _ ?_)) (yld_move rfl) rfl ?_
    refine any_take (listed' := [true, true, true, false, false, false, false, false, false, false, false, false, false, false, false, false, false].toArray) 2 rfl rfl rfl (by kernel_rfl) (by kernel_rfl) (by kernel_rfl) (by repeat (first | exact List.Sublist.refl _ | exact List.nil_sublist _ | refine List.Sublist.cons_cons _ ?_ | refine List.Sublist.cons _ ?_)) (yld_int rfl rfl (fun w => bin_sub w (wrap_i64' ((few : Int) - 1) (by omega) (by omega)))) rfl ?_
    refine any_take (listed' := [true, true, true, false, false, true, false, false, false, false, false, false, false, false, false, false, false].toArray) 5 rfl rfl rfl (by kernel_rfl) (by kernel_rfl) (by kernel_rfl) (by repeat (first | exact List.Sublist.refl _ | exact List.nil_sublist _ | refine List.Sublist.cons_cons _ ?_ | refine List.Sublist.cons _ ?_)) (yld_move rfl) rfl ?_
    refine any_take (listed' := [true, true, true, false, false, true, true, false, false, false, false, false, false, false, false, false, false].toArray) 6 rfl rfl rfl (by kernel_rfl) (by kernel_rfl) (by kernel_rfl) (by repeat (first | exact List.Sublist.refl _ | exact List.nil_sublist _ | refine List.Sublist.cons_cons _ ?_ | refine List.Sublist.cons _ ?_)) (yld_move rfl) rfl ?_
    refine any_take (listed' := [true, true, true, false, false, true, true, false, true, false, false, false, false, false, false, false, false].toArray) 8 rfl rfl rfl (by kernel_rfl) (by kernel_rfl) (by kernel_rfl) (by repeat (first | exact List.Sublist.refl _ | exact List.nil_sublist _ | refine List.Sublist.cons_cons _ ?_ | refine List.Sublist.cons _ ?_)) (yld_move rfl) rfl ?_
    refine any_take (listed' := [true, true, true, false, false, true, true, false, true, true, false, false, false, false, false, false, false].toArray) 9 rfl rfl rfl (by kernel_rfl) (by kernel_rfl) (by kernel_rfl) (by repeat (first | exact List.Sublist.refl _ | exact List.nil_sublist _ | refine List.Sublist.cons_cons _ ?_ | refine List.Sublist.cons _ ?_)) (yld_move rfl) rfl ?_
    refine any_take (listed' := [true, true, true, false, false, true, true, false, true, true, false, false, true, false, false, false, false].toArray) 12 rfl rfl rfl (by kernel_rfl) (by kernel_rfl) (by kernel_rfl) (by repeat (first | exact List.Sublist.refl _ | exact List.nil_sublist _ | refine List.Sublist.cons_cons _ ?_ | refine List.Sublist.cons _ ?_)) (yld_move rfl) rfl ?_
    refine any_two (l1 := [true, true, true, true, false, true, true, false, true, true, false, false, true, false, false, false, false].toArray) (l2 := [true, true, true, false, false, true, true, false, true, true, false, false, true, false, false, true, false].toArray) 3 15 (by kernel_rfl) rfl rfl rfl rfl ?_ ?_
    · skip
      refine lst_call_pul (X := Nat × Nat) (vs := [_, _]) hb (fun y => hatO nA nums.length nc (tk + 1) (y.1)) (fun y => y.1 < 18446744073709551616 ∧ y.2 ≤ ((few : Int) - 1 : Int).toNat) (fun y => .int .i64 (y.2 : Int)) rfl rfl F.ent25 (fun a w ha => (To_c (C := ⟨Tryd.prog, B, w0, _, _⟩) rfl hB hN (tk := tk) (st := st) (n := (few : Int) - 1) (by omega) hst (by omega) ha).mono (fun e w' h => by obtain ⟨s', x, h1, h2, h3, h4⟩ := h; exact ⟨(s', x), ⟨h1, h2⟩, h3, h4⟩)) ?_
      rintro ⟨s1, t1⟩ ⟨hs1, ht1⟩
      dsimp only at hs1 ht1 ⊢
      have hlt1 : 2 ^ t1 < 64 := pow64 ht1 hf1 hfew
      refine lst_nil ?_
      refine any_next (by repeat (first | exact List.Sublist.refl _ | exact List.nil_sublist _ | refine List.Sublist.cons_cons _ ?_ | refine List.Sublist.cons _ ?_)) ?_
      refine any_take (listed' := [true, true, true, true, true, true, true, false, true, true, false, false, true, false, false, false, false].toArray) 4 rfl rfl rfl (by kernel_rfl) (by kernel_rfl) (by kernel_rfl) (by repeat (first | exact List.Sublist.refl _ | exact List.nil_sublist _ | refine List.Sublist.cons_cons _ ?_ | refine List.Sublist.cons _ ?_)) (yld_shl rfl rfl (by omega) (shl_i64 (by omega))) rfl ?_
      refine any_two (l1 := [true, true, true, true, true, true, true, true, true, true, false, false, true, false, false, false, false].toArray) (l2 := [true, true, true, true, true, true, true, false, true, true, false, false, true, false, false, true, false].toArray) 7 15 (by kernel_rfl) rfl rfl rfl rfl ?_ ?_
      · skip
        refine lst_call_pul (X := Nat × Nat) (vs := [_, _]) hb (fun y => hatO nA nums.length nc (tk + 1 + few) (y.1)) (fun y => y.1 < 18446744073709551616 ∧ y.2 < 2 ^ few) (fun y => .int .i64 (y.2 : Int)) rfl rfl F.ent63 (fun a w ha => (FaultsOf_c (C := ⟨Tryd.prog, B, w0, _, _⟩) rfl hB hN (tk := tk + 1) (st := s1) (few := few) (by omega) hs1 hfew ha).mono (fun e w' h => by obtain ⟨s', x, h1, h2, h3, h4⟩ := h; exact ⟨(s', x), ⟨h1, h2⟩, h3, h4⟩)) ?_
        rintro ⟨s2, f1⟩ ⟨hs2, hf1⟩
        dsimp only at hs2 hf1 ⊢
        have hlf1 : f1 < 64 := few64 hf1 hfew
        refine lst_nil ?_
        refine any_next (by repeat (first | exact List.Sublist.refl _ | exact List.nil_sublist _ | refine List.Sublist.cons_cons _ ?_ | refine List.Sublist.cons _ ?_)) ?_
        refine any_two (l1 := [true, true, true, true, true, true, true, true, true, true, true, false, true, false, false, false, false].toArray) (l2 := [true, true, true, true, true, true, true, true, true, true, false, false, true, false, false, true, false].toArray) 10 15 (by kernel_rfl) rfl rfl rfl rfl ?_ ?_
        · skip
          refine lst_call_pul (X := Nat × Nat) (vs := [_, _]) hb (fun y => hatO nA nums.length nc (tk + 1 + few + few) (y.1)) (fun y => y.1 < 18446744073709551616 ∧ y.2 < 2 ^ few) (fun y => .int .i64 (y.2 : Int)) rfl rfl F.ent63 (fun a w ha => (FaultsOf_c (C := ⟨Tryd.prog, B, w0, _, _⟩) rfl hB hN (tk := tk + 1 + few) (st := s2) (few := few) (by omega) hs2 hfew ha).mono (fun e w' h => by obtain ⟨s', x, h1, h2, h3, h4⟩ := h; exact ⟨(s', x), ⟨h1, h2⟩, h3, h4⟩)) ?_
          rintro ⟨s3, f2⟩ ⟨hs3, hf2⟩
          dsimp only at hs3 hf2 ⊢
          have hlf2 : f2 < 64 := few64 hf2 hfew
          refine lst_nil ?_
          refine any_next (by repeat (first | exact List.Sublist.refl _ | exact List.nil_sublist _ | refine List.Sublist.cons_cons _ ?_ | refine List.Sublist.cons _ ?_)) ?_
          refine any_take (listed' := [true, true, true, true, true, true, true, true, true, true, true, true, true, false, false, false, false].toArray) 11 rfl rfl rfl (by kernel_rfl) (by kernel_rfl) (by kernel_rfl) (by repeat (first | exact List.Sublist.refl _ | exact List.nil_sublist _ | refine List.Sublist.cons_cons _ ?_ | refine List.Sublist.cons _ ?_)) (yld_int rfl rfl (fun w => bin_and w (i64_and f1 f2 (by omega) (by omega)))) rfl ?_
          refine any_two (l1 := [true, true, true, true, true, true, true, true, true, true, true, true, true, true, false, false, false].toArray) (l2 := [true, true, true, true, true, true, true, true, true, true, true, true, true, false, false, true, false].toArray) 13 15 (by kernel_rfl) rfl rfl rfl rfl ?_ ?_
          · skip
            refine lst_call_pul (X := Nat × Nat) (vs := [_, _, _]) hb (fun y => hatO nA nums.length nc (tk + 1 + few + few + 1) (y.1)) (fun y => y.1 < 18446744073709551616 ∧ 1 ≤ y.2 ∧ y.2 ≤ 9) (fun y => .int .i64 (y.2 : Int)) rfl rfl F.ent87 (fun a w ha => (From_c (C := ⟨Tryd.prog, B, w0, _, _⟩) rfl hB hN (tk := tk + 1 + few + few) (st := s3) (lo := 1) (hi := 9) (by omega) hs3 (by omega) (by omega) ha).mono (fun e w' h => by obtain ⟨s', x, h1, h2, h3, h4, h5⟩ := h; exact ⟨(s', x), ⟨h1, h2, h3⟩, h4, h5⟩)) ?_
            rintro ⟨s4, c1⟩ ⟨hs4, hc1a, hc1b⟩
            dsimp only at hs4 hc1a hc1b ⊢
            refine lst_nil ?_
            refine any_next (by repeat (first | exact List.Sublist.refl _ | exact List.nil_sublist _ | refine List.Sublist.cons_cons _ ?_ | refine List.Sublist.cons _ ?_)) ?_
            refine any_take (listed' := [true, true, true, true, true, true, true, true, true, true, true, true, true, true, true, false, false].toArray) 14 rfl rfl rfl (by kernel_rfl) (by kernel_rfl) (by kernel_rfl) (by repeat (first | exact List.Sublist.refl _ | exact List.nil_sublist _ | refine List.Sublist.cons_cons _ ?_ | refine List.Sublist.cons _ ?_)) (yld_struct (vs := [(2, _), (3, _), (4, _)]) (l' := [_, _, _, _, _]) rfl F.ti24 F.pl24 (.cons rfl rfl (.cons rfl rfl (.cons rfl rfl (.nil _)))) rfl) rfl ?_
            refine any_one (listed' := [true, true, true, true, true, true, true, true, true, true, true, true, true, true, true, true, false].toArray) 15 (by kernel_rfl) rfl rfl ?_
            refine lst_alloc rfl F.ti24 ?_
            intro b5
            refine lst_nil ?_
            refine any_next (by repeat (first | exact List.Sublist.refl _ | exact List.nil_sublist _ | refine List.Sublist.cons_cons _ ?_ | refine List.Sublist.cons _ ?_)) ?_
            refine any_one (listed' := [true, true, true, true, true, true, true, true, true, true, true, true, true, true, true, true, true].toArray) 16 (by kernel_rfl) rfl rfl ?_
            refine lst_store rfl rfl F.ti24 rfl ?_
            refine lst_nil ?_
            refine any_next (by repeat (first | exact List.Sublist.refl _ | exact List.nil_sublist _ | refine List.Sublist.cons_cons _ ?_ | refine List.Sublist.cons _ ?_)) ?_
            refine any_done rfl (by kernel_rfl) ?_
            exact ex_ghost (b5, s4, 2 ^ t1, f1 &&& f2, c1) ⟨hs4, hlt1, and64 hlf1, hc1a, hc1b⟩ (by repeat (first | exact Sub.nil _ | refine Sub.cons rfl ?_)) (by repeat (first | exact Pck.nil _ | exact Pck.refl _ | (apply Pck.cons; focus ((repeat (first | exact Rem.here _ | apply Rem.there)); done)) | refine Pck.skip _ ?_))
          · skip
            refine lst_alloc rfl F.ti24 ?_
            intro b5
            refine lst_nil ?_
            refine any_next (by repeat (first | exact List.Sublist.refl _ | exact List.nil_sublist _ | refine List.Sublist.cons_cons _ ?_ | refine List.Sublist.cons _ ?_)) ?_
            refine any_one (listed' := [true, true, true, true, true, true, true, true, true, true, true, true, true, true, false, true, false].toArray) 13 (by kernel_rfl) rfl rfl ?_
            refine lst_call_pul (X := Nat × Nat) (vs := [_, _, _]) hb (fun y => hatO nA nums.length nc (tk + 1 + few + few + 1) (y.1)) (fun y => y.1 < 18446744073709551616 ∧ 1 ≤ y.2 ∧ y.2 ≤ 9) (fun y => .int .i64 (y.2 : Int)) rfl rfl F.ent87 (fun a w ha => (From_c (C := ⟨Tryd.prog, B, w0, _, _⟩) rfl hB hN (tk := tk + 1 + few + few) (st := s3) (lo := 1) (hi := 9) (by omega) hs3 (by omega) (by omega) ha).mono (fun e w' h => by obtain ⟨s', x, h1, h2, h3, h4, h5⟩ := h; exact ⟨(s', x), ⟨h1, h2, h3⟩, h4, h5⟩)) ?_
            rintro ⟨s4, c1⟩ ⟨hs4, hc1a, hc1b⟩
            dsimp only at hs4 hc1a hc1b ⊢
            refine lst_nil ?_
            refine any_next (by repeat (first | exact List.Sublist.refl _ | exact List.nil_sublist _ | refine List.Sublist.cons_cons _ ?_ | refine List.Sublist.cons _ ?_)) ?_
            refine any_take (listed' := [true, true, true, true, true, true, true, true, true, true, true, true, true, true, true, true, false].toArray) 14 rfl rfl rfl (by kernel_rfl) (by kernel_rfl) (by kernel_rfl) (by repeat (first | exact List.Sublist.refl _ | exact List.nil_sublist _ | refine List.Sublist.cons_cons _ ?_ | refine List.Sublist.cons _ ?_)) (yld_struct (vs := [(2, _), (3, _), (4, _)]) (l' := [_, _, _, _, _]) rfl F.ti24 F.pl24 (.cons rfl rfl (.cons rfl rfl (.cons rfl rfl (.nil _)))) rfl) rfl ?_
            refine any_one (listed' := [true, true, true, true, true, true, true, true, true, true, true, true, true, true, true, true, true].toArray) 16 (by kernel_rfl) rfl rfl ?_
            refine lst_store rfl rfl F.ti24 rfl ?_
            refine lst_nil ?_
            refine any_next (by repeat (first | exact List.Sublist.refl _ | exact List.nil_sublist _ | refine List.Sublist.cons_cons _ ?_ | refine List.Sublist.cons _ ?_)) ?_
            refine any_done rfl (by kernel_rfl) ?_
            exact ex_ghost (b5, s4, 2 ^ t1, f1 &&& f2, c1) ⟨hs4, hlt1, and64 hlf1, hc1a, hc1b⟩ (by repeat (first | exact Sub.nil _ | refine Sub.cons rfl ?_)) (by repeat (first | exact Pck.nil _ | exact Pck.refl _ | (apply Pck.cons; focus ((repeat (first | exact Rem.here _ | apply Rem.there)); done)) | refine Pck.skip _ ?_))
        · skip
          refine lst_alloc rfl F.ti24 ?_
          intro b5
          refine lst_nil ?_
          refine any_next (by repeat (first | exact List.Sublist.refl _ | exact List.nil_sublist _ | refine List.Sublist.cons_cons _ ?_ | refine List.Sublist.cons _ ?_)) ?_
          refine any_one (listed' := [true, true, true, true, true, true, true, true, true, true, true, false, true, false, false, true, false].toArray) 10 (by kernel_rfl) rfl rfl ?_
          refine lst_call_pul (X := Nat × Nat) (vs := [_, _]) hb (fun y => hatO nA nums.length nc (tk + 1 + few + few) (y.1)) (fun y => y.1 < 18446744073709551616 ∧ y.2 < 2 ^ few) (fun y => .int .i64 (y.2 : Int)) rfl rfl F.ent63 (fun a w ha => (FaultsOf_c (C := ⟨Tryd.prog, B, w0, _, _⟩) rfl hB hN (tk := tk + 1 + few) (st := s2) (few := few) (by omega) hs2 hfew ha).mono (fun e w' h => by obtain ⟨s', x, h1, h2, h3, h4⟩ := h; exact ⟨(s', x), ⟨h1, h2⟩, h3, h4⟩)) ?_
          rintro ⟨s3, f2⟩ ⟨hs3, hf2⟩
          dsimp only at hs3 hf2 ⊢
          have hlf2 : f2 < 64 := few64 hf2 hfew
          refine lst_nil ?_
          refine any_next (by repeat (first | exact List.Sublist.refl _ | exact List.nil_sublist _ | refine List.Sublist.cons_cons _ ?_ | refine List.Sublist.cons _ ?_)) ?_
          refine any_take (listed' := [true, true, true, true, true, true, true, true, true, true, true, true, true, false, false, true, false].toArray) 11 rfl rfl rfl (by kernel_rfl) (by kernel_rfl) (by kernel_rfl) (by repeat (first | exact List.Sublist.refl _ | exact List.nil_sublist _ | refine List.Sublist.cons_cons _ ?_ | refine List.Sublist.cons _ ?_)) (yld_int rfl rfl (fun w => bin_and w (i64_and f1 f2 (by omega) (by omega)))) rfl ?_
          refine any_one (listed' := [true, true, true, true, true, true, true, true, true, true, true, true, true, true, false, true, false].toArray) 13 (by kernel_rfl) rfl rfl ?_
          refine lst_call_pul (X := Nat × Nat) (vs := [_, _, _]) hb (fun y => hatO nA nums.length nc (tk + 1 + few + few + 1) (y.1)) (fun y => y.1 < 18446744073709551616 ∧ 1 ≤ y.2 ∧ y.2 ≤ 9) (fun y => .int .i64 (y.2 : Int)) rfl rfl F.ent87 (fun a w ha => (From_c (C := ⟨Tryd.prog, B, w0, _, _⟩) rfl hB hN (tk := tk + 1 + few + few) (st := s3) (lo := 1) (hi := 9) (by omega) hs3 (by omega) (by omega) ha).mono (fun e w' h => by obtain ⟨s', x, h1, h2, h3, h4, h5⟩ := h; exact ⟨(s', x), ⟨h1, h2, h3⟩, h4, h5⟩)) ?_
          rintro ⟨s4, c1⟩ ⟨hs4, hc1a, hc1b⟩
          dsimp only at hs4 hc1a hc1b ⊢
          refine lst_nil ?_
          refine any_next (by repeat (first | exact List.Sublist.refl _ | exact List.nil_sublist _ | refine List.Sublist.cons_cons _ ?_ | refine List.Sublist.cons _ ?_)) ?_
          refine any_take (listed' := [true, true, true, true, true, true, true, true, true, true, true, true, true, true, true, true, false].toArray) 14 rfl rfl rfl (by kernel_rfl) (by kernel_rfl) (by kernel_rfl) (by repeat (first | exact List.Sublist.refl _ | exact List.nil_sublist _ | refine List.Sublist.cons_cons _ ?_ | refine List.Sublist.cons _ ?_)) (yld_struct (vs := [(2, _), (3, _), (4, _)]) (l' := [_, _, _, _, _]) rfl F.ti24 F.pl24 (.cons rfl rfl (.cons rfl rfl (.cons rfl rfl (.nil _)))) rfl) rfl ?_
          refine any_one (listed' := [true, true, true, true, true, true, true, true, true, true, true, true, true, true, true, true, true].toArray) 16 (by kernel_rfl) rfl rfl ?_
          refine lst_store rfl rfl F.ti24 rfl ?_
          refine lst_nil ?_
          refine any_next (by repeat (first | exact List.Sublist.refl _ | exact List.nil_sublist _ | refine List.Sublist.cons_cons _ ?_ | refine List.Sublist.cons _ ?_)) ?_
          refine any_done rfl (by kernel_rfl) ?_
          exact ex_ghost (b5, s4, 2 ^ t1, f1 &&& f2, c1) ⟨hs4, hlt1, and64 hlf1, hc1a, hc1b⟩ (by repeat (first | exact Sub.nil _ | refine Sub.cons rfl ?_)) (by repeat (first | exact Pck.nil _ | exact Pck.refl _ | (apply Pck.cons; focus ((repeat (first | exact Rem.here _ | apply Rem.there)); done)) | refine Pck.skip _ ?_))
      · skip
        refine lst_alloc rfl F.ti24 ?_
        intro b5
        refine lst_nil ?_
        refine any_next (by repeat (first | exact List.Sublist.refl _ | exact List.nil_sublist _ | refine List.Sublist.cons_cons _ ?_ | refine List.Sublist.cons _ ?_)) ?_
        refine any_one (listed' := [true, true, true, true, true, true, true, true, true, true, false, false, true, false, false, true, false].toArray) 7 (by kernel_rfl) rfl rfl ?_
        refine lst_call_pul (X := Nat × Nat) (vs := [_, _]) hb (fun y => hatO nA nums.length nc (tk + 1 + few) (y.1)) (fun y => y.1 < 18446744073709551616 ∧ y.2 < 2 ^ few) (fun y => .int .i64 (y.2 : Int)) rfl rfl F.ent63 (fun a w ha => (FaultsOf_c (C := ⟨Tryd.prog, B, w0, _, _⟩) rfl hB hN (tk := tk + 1) (st := s1) (few := few) (by omega) hs1 hfew ha).mono (fun e w' h => by obtain ⟨s', x, h1, h2, h3, h4⟩ := h; exact ⟨(s', x), ⟨h1, h2⟩, h3, h4⟩)) ?_
        rintro ⟨s2, f1⟩ ⟨hs2, hf1⟩
        dsimp only at hs2 hf1 ⊢
        have hlf1 : f1 < 64 := few64 hf1 hfew
        refine lst_nil ?_
        refine any_next (by repeat (first | exact List.Sublist.refl _ | exact List.nil_sublist _ | refine List.Sublist.cons_cons _ ?_ | refine List.Sublist.cons _ ?_)) ?_
        refine any_one (listed' := [true, true, true, true, true, true, true, true, true, true, true, false, true, false, false, true, false].toArray) 10 (by kernel_rfl) rfl rfl ?_
        refine lst_call_pul (X := Nat × Nat) (vs := [_, _]) hb (fun y => hatO nA nums.length nc (tk + 1 + few + few) (y.1)) (fun y => y.1 < 18446744073709551616 ∧ y.2 < 2 ^ few) (fun y => .int .i64 (y.2 : Int)) rfl rfl F.ent63 (fun a w ha => (FaultsOf_c (C := ⟨Tryd.prog, B, w0, _, _⟩) rfl hB hN (tk := tk + 1 + few) (st := s2) (few := few) (by omega) hs2 hfew ha).mono (fun e w' h => by obtain ⟨s', x, h1, h2, h3, h4⟩ := h; exact ⟨(s', x), ⟨h1, h2⟩, h3, h4⟩)) ?_
        rintro ⟨s3, f2⟩ ⟨hs3, hf2⟩
        dsimp only at hs3 hf2 ⊢
        have hlf2 : f2 < 64 := few64 hf2 hfew
        refine lst_nil ?_
        refine any_next (by repeat (first | exact List.Sublist.refl _ | exact List.nil_sublist _ | refine List.Sublist.cons_cons _ ?_ | refine List.Sublist.cons _ ?_)) ?_
        refine any_take (listed' := [true, true, true, true, true, true, true, true, true, true, true, true, true, false, false, true, false].toArray) 11 rfl rfl rfl (by kernel_rfl) (by kernel_rfl) (by kernel_rfl) (by repeat (first | exact List.Sublist.refl _ | exact List.nil_sublist _ | refine List.Sublist.cons_cons _ ?_ | refine List.Sublist.cons _ ?_)) (yld_int rfl rfl (fun w => bin_and w (i64_and f1 f2 (by omega) (by omega)))) rfl ?_
        refine any_one (listed' := [true, true, true, true, true, true, true, true, true, true, true, true, true, true, false, true, false].toArray) 13 (by kernel_rfl) rfl rfl ?_
        refine lst_call_pul (X := Nat × Nat) (vs := [_, _, _]) hb (fun y => hatO nA nums.length nc (tk + 1 + few + few + 1) (y.1)) (fun y => y.1 < 18446744073709551616 ∧ 1 ≤ y.2 ∧ y.2 ≤ 9) (fun y => .int .i64 (y.2 : Int)) rfl rfl F.ent87 (fun a w ha => (From_c (C := ⟨Tryd.prog, B, w0, _, _⟩) rfl hB hN (tk := tk + 1 + few + few) (st := s3) (lo := 1) (hi := 9) (by omega) hs3 (by omega) (by omega) ha).mono (fun e w' h => by obtain ⟨s', x, h1, h2, h3, h4, h5⟩ := h; exact ⟨(s', x), ⟨h1, h2, h3⟩, h4, h5⟩)) ?_
        rintro ⟨s4, c1⟩ ⟨hs4, hc1a, hc1b⟩
        dsimp only at hs4 hc1a hc1b ⊢
        refine lst_nil ?_
        refine any_next (by repeat (first | exact List.Sublist.refl _ | exact List.nil_sublist _ | refine List.Sublist.cons_cons _ ?_ | refine List.Sublist.cons _ ?_)) ?_
        refine any_take (listed' := [true, true, true, true, true, true, true, true, true, true, true, true, true, true, true, true, false].toArray) 14 rfl rfl rfl (by kernel_rfl) (by kernel_rfl) (by kernel_rfl) (by repeat (first | exact List.Sublist.refl _ | exact List.nil_sublist _ | refine List.Sublist.cons_cons _ ?_ | refine List.Sublist.cons _ ?_)) (yld_struct (vs := [(2, _), (3, _), (4, _)]) (l' := [_, _, _, _, _]) rfl F.ti24 F.pl24 (.cons rfl rfl (.cons rfl rfl (.cons rfl rfl (.nil _)))) rfl) rfl ?_
        refine any_one (listed' := [true, true, true, true, true, true, true, true, true, true, true, true, true, true, true, true, true].toArray) 16 (by kernel_rfl) rfl rfl ?_
        refine lst_store rfl rfl F.ti24 rfl ?_
        refine lst_nil ?_
        refine any_next (by repeat (first | exact List.Sublist.refl _ | exact List.nil_sublist _ | refine List.Sublist.cons_cons _ ?_ | refine List.Sublist.cons _ ?_)) ?_
        refine any_done rfl (by kernel_rfl) ?_
        exact ex_ghost (b5, s4, 2 ^ t1, f1 &&& f2, c1) ⟨hs4, hlt1, and64 hlf1, hc1a, hc1b⟩ (by repeat (first | exact Sub.nil _ | refine Sub.cons rfl ?_)) (by repeat (first | exact Pck.nil _ | exact Pck.refl _ | (apply Pck.cons; focus ((repeat (first | exact Rem.here _ | apply Rem.there)); done)) | refine Pck.skip _ ?_))
    · skip
      refine lst_alloc rfl F.ti24 ?_
      intro b5
      refine lst_nil ?_
      refine any_next (by repeat (first | exact List.Sublist.refl _ | exact List.nil_sublist _ | refine List.Sublist.cons_cons _ ?_ | refine List.Sublist.cons _ ?_)) ?_
      refine any_one (listed' := [true, true, true, true, false, true, true, false, true, true, false, false, true, false, false, true, false].toArray) 3 (by kernel_rfl) rfl rfl ?_
      refine lst_call_pul (X := Nat × Nat) (vs := [_, _]) hb (fun y => hatO nA nums.length nc (tk + 1) (y.1)) (fun y => y.1 < 18446744073709551616 ∧ y.2 ≤ ((few : Int) - 1 : Int).toNat) (fun y => .int .i64 (y.2 : Int)) rfl rfl F.ent25 (fun a w ha => (To_c (C := ⟨Tryd.prog, B, w0, _, _⟩) rfl hB hN (tk := tk) (st := st) (n := (few : Int) - 1) (by omega) hst (by omega) ha).mono (fun e w' h => by obtain ⟨s', x, h1, h2, h3, h4⟩ := h; exact ⟨(s', x), ⟨h1, h2⟩, h3, h4⟩)) ?_
      rintro ⟨s1, t1⟩ ⟨hs1, ht1⟩
      dsimp only at hs1 ht1 ⊢
      have hlt1 : 2 ^ t1 < 64 := pow64 ht1 hf1 hfew
      refine lst_nil ?_
      refine any_next (by repeat (first | exact List.Sublist.refl _ | exact List.nil_sublist _ | refine List.Sublist.cons_cons _ ?_ | refine List.Sublist.cons _ ?_)) ?_
      refine any_take (listed' := [true, true, true, true, true, true, true, false, true, true, false, false, true, false, false, true, false].toArray) 4 rfl rfl rfl (by kernel_rfl) (by kernel_rfl) (by kernel_rfl) (by repeat (first | exact List.Sublist.refl _ | exact List.nil_sublist _ | refine List.Sublist.cons_cons _ ?_ | refine List.Sublist.cons _ ?_)) (yld_shl rfl rfl (by omega) (shl_i64 (by omega))) rfl ?_
      refine any_one (listed' := [true, true, true, true, true, true, true, true, true, true, false, false, true, false, false, true, false].toArray) 7 (by kernel_rfl) rfl rfl ?_
      refine lst_call_pul (X := Nat × Nat) (vs := [_, _]) hb (fun y => hatO nA nums.length nc (tk + 1 + few) (y.1)) (fun y => y.1 < 18446744073709551616 ∧ y.2 < 2 ^ few) (fun y => .int .i64 (y.2 : Int)) rfl rfl F.ent63 (fun a w ha => (FaultsOf_c (C := ⟨Tryd.prog, B, w0, _, _⟩) rfl hB hN (tk := tk + 1) (st := s1) (few := few) (by omega) hs1 hfew ha).mono (fun e w' h => by obtain ⟨s', x, h1, h2, h3, h4⟩ := h; exact ⟨(s', x), ⟨h1, h2⟩, h3, h4⟩)) ?_
      rintro ⟨s2, f1⟩ ⟨hs2, hf1⟩
      dsimp only at hs2 hf1 ⊢
      have hlf1 : f1 < 64 := few64 hf1 hfew
      refine lst_nil ?_
      refine any_next (by repeat (first | exact List.Sublist.refl _ | exact List.nil_sublist _ | refine List.Sublist.cons_cons _ ?_ | refine List.Sublist.cons _ ?_)) ?_
      refine any_one (listed' := [true, true, true, true, true, true, true, true, true, true, true, false, true, false, false, true, false].toArray) 10 (by kernel_rfl) rfl rfl ?_
      refine lst_call_pul (X := Nat × Nat) (vs := [_, _]) hb (fun y => hatO nA nums.length nc (tk + 1 + few + few) (y.1)) (fun y => y.1 < 18446744073709551616 ∧ y.2 < 2 ^ few) (fun y => .int .i64 (y.2 : Int)) rfl rfl F.ent63 (fun a w ha => (FaultsOf_c (C := ⟨Tryd.prog, B, w0, _, _⟩) rfl hB hN (tk := tk + 1 + few) (st := s2) (few := few) (by omega) hs2 hfew ha).mono (fun e w' h => by obtain ⟨s', x, h1, h2, h3, h4⟩ := h; exact ⟨(s', x), ⟨h1, h2⟩, h3, h4⟩)) ?_
      rintro ⟨s3, f2⟩ ⟨hs3, hf2⟩
      dsimp only at hs3 hf2 ⊢
      have hlf2 : f2 < 64 := few64 hf2 hfew
      refine lst_nil ?_
      refine any_next (by repeat (first | exact List.Sublist.refl _ | exact List.nil_sublist _ | refine List.Sublist.cons_cons _ ?_ | refine List.Sublist.cons _ ?_)) ?_
      refine any_take (listed' := [true, true, true, true, true, true, true, true, true, true, true, true, true, false, false, true, false].toArray) 11 rfl rfl rfl (by kernel_rfl) (by kernel_rfl) (by kernel_rfl) (by repeat (first | exact List.Sublist.refl _ | exact List.nil_sublist _ | refine List.Sublist.cons_cons _ ?_ | refine List.Sublist.cons _ ?_)) (yld_int rfl rfl (fun w => bin_and w (i64_and f1 f2 (by omega) (by omega)))) rfl ?_
      refine any_one (listed' := [true, true, true, true, true, true, true, true, true, true, true, true, true, true, false, true, false].toArray) 13 (by kernel_rfl) rfl rfl ?_
      refine lst_call_pul (X := Nat × Nat) (vs := [_, _, _]) hb (fun y => hatO nA nums.length nc (tk + 1 + few + few + 1) (y.1)) (fun y => y.1 < 18446744073709551616 ∧ 1 ≤ y.2 ∧ y.2 ≤ 9) (fun y => .int .i64 (y.2 : Int)) rfl rfl F.ent87 (fun a w ha => (From_c (C := ⟨Tryd.prog, B, w0, _, _⟩) rfl hB hN (tk := tk + 1 + few + few) (st := s3) (lo := 1) (hi := 9) (by omega) hs3 (by omega) (by omega) ha).mono (fun e w' h => by obtain ⟨s', x, h1, h2, h3, h4, h5⟩ := h; exact ⟨(s', x), ⟨h1, h2, h3⟩, h4, h5⟩)) ?_
      rintro ⟨s4, c1⟩ ⟨hs4, hc1a, hc1b⟩
      dsimp only at hs4 hc1a hc1b ⊢
      refine lst_nil ?_
      refine any_next (by repeat (first | exact List.Sublist.refl _ | exact List.nil_sublist _ | refine List.Sublist.cons_cons _ ?_ | refine List.Sublist.cons _ ?_)) ?_
      refine any_take (listed' := [true, true, true, true, true, true, true, true, true, true, true, true, true, true, true, true, false].toArray) 14 rfl rfl rfl (by kernel_rfl) (by kernel_rfl) (by kernel_rfl) (by repeat (first | exact List.Sublist.refl _ | exact List.nil_sublist _ | refine List.Sublist.cons_cons _ ?_ | refine List.Sublist.cons _ ?_)) (yld_struct (vs := [(2, _), (3, _), (4, _)]) (l' := [_, _, _, _, _]) rfl F.ti24 F.pl24 (.cons rfl rfl (.cons rfl rfl (.cons rfl rfl (.nil _)))) rfl) rfl ?_
      refine any_one (listed' := [true, true, true, true, true, true, true, true, true, true, true, true, true, true, true, true, true].toArray) 16 (by kernel_rfl) rfl rfl ?_
      refine lst_store rfl rfl F.ti24 rfl ?_
      refine lst_nil ?_
      refine any_next (by repeat (first | exact List.Sublist.refl _ | exact List.nil_sublist _ | refine List.Sublist.cons_cons _ ?_ | refine List.Sublist.cons _ ?_)) ?_
      refine any_done rfl (by kernel_rfl) ?_
      exact ex_ghost (b5, s4, 2 ^ t1, f1 &&& f2, c1) ⟨hs4, hlt1, and64 hlf1, hc1a, hc1b⟩ (by repeat (first | exact Sub.nil _ | refine Sub.cons rfl ?_)) (by repeat (first | exact Pck.nil _ | exact Pck.refl _ | (apply Pck.cons; focus ((repeat (first | exact Rem.here _ | apply Rem.there)); done)) | refine Pck.skip _ ?_))
  · skip
    rintro ⟨b5, s4, k0, l0, c0⟩ ⟨hs4, hk0, hl0, hc0a, hc0b⟩
    dsimp only at hs4 hk0 hl0 hc0a hc0b ⊢
    refine ex_then ?_
    refine cod_seq ?_
    refine cod_ghost (G := Nat × Nat) (fun g => g.1 < 18446744073709551616 ∧ g.2 < 64) (fun g => [(0, .pointer (some ⟨hb, 0, none⟩)), (1, .int .i64 (few : Int)), (4, .pointer (some ⟨b4, 0, none⟩)), (5, .pointer (some ⟨b5, 0, none⟩))]) (fun g => .blk hb (hatO nA nums.length nc (tk + 1 + few + few + 1 + few + few) (g.1)) :: .blk b5 (.cells [.int .i64 ((0 : Nat) : Int), .int .i64 ((0 : Nat) : Int), .int .i64 (g.2 : Int), .int .i64 (l0 : Int), .int .i64 (c0 : Int)].toArray 24 (0, 0)) :: .blk b4 (.cells [.int .i64 0, .int .i64 0, .int .i64 0, .int .i64 0, .int .i64 0].toArray 24 (0, 0)) :: T) ?_ ?_
    · skip
      refine any_begin [.b b5, .b hb] F.follows 12 rfl [false, false, false, false, false, false, false, false, false, false, false, false] rfl ?_
      refine any_take (listed' := [true, false, false, false, false, false, false, false, false, false, false, false].toArray) 0 rfl rfl rfl (by kernel_rfl) (by kernel_rfl) (by kernel_rfl) (by repeat (first | exact List.Sublist.refl _ | exact List.nil_sublist _ | refine List.Sublist.cons_cons _ ?_ | refine List.Sublist.cons _ ?_)) (yld_field_z rfl F.fi24_2 F.ti3) rfl ?_
      refine any_take (listed' := [true, false, true, false, false, false, false, false, false, false, false, false].toArray) 2 rfl rfl rfl (by kernel_rfl) (by kernel_rfl) (by kernel_rfl) (by repeat (first | exact List.Sublist.refl _ | exact List.nil_sublist _ | refine List.Sublist.cons_cons _ ?_ | refine List.Sublist.cons _ ?_)) (yld_move rfl) rfl ?_
      refine any_take (listed' := [true, false, true, true, false, false, false, false, false, false, false, false].toArray) 3 rfl rfl rfl (by kernel_rfl) (by kernel_rfl) (by kernel_rfl) (by repeat (first | exact List.Sublist.refl _ | exact List.nil_sublist _ | refine List.Sublist.cons_cons _ ?_ | refine List.Sublist.cons _ ?_)) (yld_move rfl) rfl ?_
      refine any_take (listed' := [true, false, true, true, false, true, false, false, false, false, false, false].toArray) 5 rfl rfl rfl (by kernel_rfl) (by kernel_rfl) (by kernel_rfl) (by repeat (first | exact List.Sublist.refl _ | exact List.nil_sublist _ | refine List.Sublist.cons_cons _ ?_ | refine List.Sublist.cons _ ?_)) (yld_move rfl) rfl ?_
      refine any_take (listed' := [true, false, true, true, false, true, true, false, false, false, false, false].toArray) 6 rfl rfl rfl (by kernel_rfl) (by kernel_rfl) (by kernel_rfl) (by repeat (first | exact List.Sublist.refl _ | exact List.nil_sublist _ | refine List.Sublist.cons_cons _ ?_ | refine List.Sublist.cons _ ?_)) (yld_move rfl) rfl ?_
      refine any_two (l1 := [true, true, true, true, false, true, true, false, false, false, false, false].toArray) (l2 := [true, false, true, true, true, true, true, false, false, false, false, false].toArray) 1 4 (by kernel_rfl) rfl rfl rfl rfl ?_ ?_
      · skip
        refine lst_load rfl rfl F.one3 ?_
        refine lst_nil ?_
        refine any_next (by repeat (first | exact List.Sublist.refl _ | exact List.nil_sublist _ | refine List.Sublist.cons_cons _ ?_ | refine List.Sublist.cons _ ?_)) ?_
        refine any_one (listed' := [true, true, true, true, true, true, true, false, false, false, false, false].toArray) 4 (by kernel_rfl) rfl rfl ?_
        refine lst_call_pul (X := Nat × Nat) (vs := [_, _]) hb (fun y => hatO nA nums.length nc (tk + 1 + few + few + 1 + few) (y.1)) (fun y => y.1 < 18446744073709551616 ∧ y.2 < 2 ^ few) (fun y => .int .i64 (y.2 : Int)) rfl rfl F.ent63 (fun a w ha => (FaultsOf_c (C := ⟨Tryd.prog, B, w0, _, _⟩) rfl hB hN (tk := tk + 1 + few + few + 1) (st := s4) (few := few) (by omega) hs4 hfew ha).mono (fun e w' h => by obtain ⟨s', x, h1, h2, h3, h4⟩ := h; exact ⟨(s', x), ⟨h1, h2⟩, h3, h4⟩)) ?_
        rintro ⟨s5, f3⟩ ⟨hs5, hf3⟩
        dsimp only at hs5 hf3 ⊢
        have hlf3 : f3 < 64 := few64 hf3 hfew
        refine lst_nil ?_
        refine any_next (by repeat (first | exact List.Sublist.refl _ | exact List.nil_sublist _ | refine List.Sublist.cons_cons _ ?_ | refine List.Sublist.cons _ ?_)) ?_
        refine any_one (listed' := [true, true, true, true, true, true, true, true, false, false, false, false].toArray) 7 (by kernel_rfl) rfl rfl ?_
        refine lst_call_pul (X := Nat × Nat) (vs := [_, _]) hb (fun y => hatO nA nums.length nc (tk + 1 + few + few + 1 + few + few) (y.1)) (fun y => y.1 < 18446744073709551616 ∧ y.2 < 2 ^ few) (fun y => .int .i64 (y.2 : Int)) rfl rfl F.ent63 (fun a w ha => (FaultsOf_c (C := ⟨Tryd.prog, B, w0, _, _⟩) rfl hB hN (tk := tk + 1 + few + few + 1 + few) (st := s5) (few := few) (by omega) hs5 hfew ha).mono (fun e w' h => by obtain ⟨s', x, h1, h2, h3, h4⟩ := h; exact ⟨(s', x), ⟨h1, h2⟩, h3, h4⟩)) ?_
        rintro ⟨s6, f4⟩ ⟨hs6, hf4⟩
        dsimp only at hs6 hf4 ⊢
        have hlf4 : f4 < 64 := few64 hf4 hfew
        refine lst_nil ?_
        refine any_next (by repeat (first | exact List.Sublist.refl _ | exact List.nil_sublist _ | refine List.Sublist.cons_cons _ ?_ | refine List.Sublist.cons _ ?_)) ?_
        refine any_take (listed' := [true, true, true, true, true, true, true, true, true, false, false, false].toArray) 8 rfl rfl rfl (by kernel_rfl) (by kernel_rfl) (by kernel_rfl) (by repeat (first | exact List.Sublist.refl _ | exact List.nil_sublist _ | refine List.Sublist.cons_cons _ ?_ | refine List.Sublist.cons _ ?_)) (yld_int rfl rfl (fun w => bin_and w (i64_and f3 f4 (by omega) (by omega)))) rfl ?_
        have hl34 : f3 &&& f4 < 64 := and64 hlf3
        refine any_take (listed' := [true, true, true, true, true, true, true, true, true, true, false, false].toArray) 9 rfl rfl rfl (by kernel_rfl) (by kernel_rfl) (by kernel_rfl) (by repeat (first | exact List.Sublist.refl _ | exact List.nil_sublist _ | refine List.Sublist.cons_cons _ ?_ | refine List.Sublist.cons _ ?_)) (yld_int rfl rfl (fun w => bin_or w (i64_or k0 (f3 &&& f4) (by omega) (by omega)))) rfl ?_
        refine any_take (listed' := [true, true, true, true, true, true, true, true, true, true, true, false].toArray) 10 rfl rfl rfl (by kernel_rfl) (by kernel_rfl) (by kernel_rfl) (by repeat (first | exact List.Sublist.refl _ | exact List.nil_sublist _ | refine List.Sublist.cons_cons _ ?_ | refine List.Sublist.cons _ ?_)) (yld_field_z rfl F.fi24_2 F.ti3) rfl ?_
        refine any_one (listed' := [true, true, true, true, true, true, true, true, true, true, true, true].toArray) 11 (by kernel_rfl) rfl rfl ?_
        refine lst_store rfl rfl F.ti3 rfl ?_
        refine lst_nil ?_
        refine any_next (by repeat (first | exact List.Sublist.refl _ | exact List.nil_sublist _ | refine List.Sublist.cons_cons _ ?_ | refine List.Sublist.cons _ ?_)) ?_
        refine any_done rfl (by kernel_rfl) ?_
        exact ex_ghost (s6, k0 ||| f3 &&& f4) ⟨hs6, or64 hk0 hl34⟩ (by repeat (first | exact Sub.nil _ | refine Sub.cons rfl ?_)) (by repeat (first | exact Pck.nil _ | exact Pck.refl _ | (apply Pck.cons; focus ((repeat (first | exact Rem.here _ | apply Rem.there)); done)) | refine Pck.skip _ ?_))
      · skip
        refine lst_call_pul (X := Nat × Nat) (vs := [_, _]) hb (fun y => hatO nA nums.length nc (tk + 1 + few + few + 1 + few) (y.1)) (fun y => y.1 < 18446744073709551616 ∧ y.2 < 2 ^ few) (fun y => .int .i64 (y.2 : Int)) rfl rfl F.ent63 (fun a w ha => (FaultsOf_c (C := ⟨Tryd.prog, B, w0, _, _⟩) rfl hB hN (tk := tk + 1 + few + few + 1) (st := s4) (few := few) (by omega) hs4 hfew ha).mono (fun e w' h => by obtain ⟨s', x, h1, h2, h3, h4⟩ := h; exact ⟨(s', x), ⟨h1, h2⟩, h3, h4⟩)) ?_
        rintro ⟨s5, f3⟩ ⟨hs5, hf3⟩
        dsimp only at hs5 hf3 ⊢
        have hlf3 : f3 < 64 := few64 hf3 hfew
        refine lst_nil ?_
        refine any_next (by repeat (first | exact List.Sublist.refl _ | exact List.nil_sublist _ | refine List.Sublist.cons_cons _ ?_ | refine List.Sublist.cons _ ?_)) ?_
        refine any_two (l1 := [true, true, true, true, true, true, true, false, false, false, false, false].toArray) (l2 := [true, false, true, true, true, true, true, true, false, false, false, false].toArray) 1 7 (by kernel_rfl) rfl rfl rfl rfl ?_ ?_
        · skip
          refine lst_load rfl rfl F.one3 ?_
          refine lst_nil ?_
          refine any_next (by repeat (first | exact List.Sublist.refl _ | exact List.nil_sublist _ | refine List.Sublist.cons_cons _ ?_ | refine List.Sublist.cons _ ?_)) ?_
          refine any_one (listed' := [true, true, true, true, true, true, true, true, false, false, false, false].toArray) 7 (by kernel_rfl) rfl rfl ?_
          refine lst_call_pul (X := Nat × Nat) (vs := [_, _]) hb (fun y => hatO nA nums.length nc (tk + 1 + few + few + 1 + few + few) (y.1)) (fun y => y.1 < 18446744073709551616 ∧ y.2 < 2 ^ few) (fun y => .int .i64 (y.2 : Int)) rfl rfl F.ent63 (fun a w ha => (FaultsOf_c (C := ⟨Tryd.prog, B, w0, _, _⟩) rfl hB hN (tk := tk + 1 + few + few + 1 + few) (st := s5) (few := few) (by omega) hs5 hfew ha).mono (fun e w' h => by obtain ⟨s', x, h1, h2, h3, h4⟩ := h; exact ⟨(s', x), ⟨h1, h2⟩, h3, h4⟩)) ?_
          rintro ⟨s6, f4⟩ ⟨hs6, hf4⟩
          dsimp only at hs6 hf4 ⊢
          have hlf4 : f4 < 64 := few64 hf4 hfew
          refine lst_nil ?_
          refine any_next (by repeat (first | exact List.Sublist.refl _ | exact List.nil_sublist _ | refine List.Sublist.cons_cons _ ?_ | refine List.Sublist.cons _ ?_)) ?_
          refine any_take (listed' := [true, true, true, true, true, true, true, true, true, false, false, false].toArray) 8 rfl rfl rfl (by kernel_rfl) (by kernel_rfl) (by kernel_rfl) (by repeat (first | exact List.Sublist.refl _ | exact List.nil_sublist _ | refine List.Sublist.cons_cons _ ?_ | refine List.Sublist.cons _ ?_)) (yld_int rfl rfl (fun w => bin_and w (i64_and f3 f4 (by omega) (by omega)))) rfl ?_
          have hl34 : f3 &&& f4 < 64 := and64 hlf3
          refine any_take (listed' := [true, true, true, true, true, true, true, true, true, true, false, false].toArray) 9 rfl rfl rfl (by kernel_rfl) (by kernel_rfl) (by kernel_rfl) (by repeat (first | exact List.Sublist.refl _ | exact List.nil_sublist _ | refine List.Sublist.cons_cons _ ?_ | refine List.Sublist.cons _ ?_)) (yld_int rfl rfl (fun w => bin_or w (i64_or k0 (f3 &&& f4) (by omega) (by omega)))) rfl ?_
          refine any_take (listed' := [true, true, true, true, true, true, true, true, true, true, true, false].toArray) 10 rfl rfl rfl (by kernel_rfl) (by kernel_rfl) (by kernel_rfl) (by repeat (first | exact List.Sublist.refl _ | exact List.nil_sublist _ | refine List.Sublist.cons_cons _ ?_ | refine List.Sublist.cons _ ?_)) (yld_field_z rfl F.fi24_2 F.ti3) rfl ?_
          refine any_one (listed' := [true, true, true, true, true, true, true, true, true, true, true, true].toArray) 11 (by kernel_rfl) rfl rfl ?_
          refine lst_store rfl rfl F.ti3 rfl ?_
          refine lst_nil ?_
          refine any_next (by repeat (first | exact List.Sublist.refl _ | exact List.nil_sublist _ | refine List.Sublist.cons_cons _ ?_ | refine List.Sublist.cons _ ?_)) ?_
          refine any_done rfl (by kernel_rfl) ?_
          exact ex_ghost (s6, k0 ||| f3 &&& f4) ⟨hs6, or64 hk0 hl34⟩ (by repeat (first | exact Sub.nil _ | refine Sub.cons rfl ?_)) (by repeat (first | exact Pck.nil _ | exact Pck.refl _ | (apply Pck.cons; focus ((repeat (first | exact Rem.here _ | apply Rem.there)); done)) | refine Pck.skip _ ?_))
        · skip
          refine lst_call_pul (X := Nat × Nat) (vs := [_, _]) hb (fun y => hatO nA nums.length nc (tk + 1 + few + few + 1 + few + few) (y.1)) (fun y => y.1 < 18446744073709551616 ∧ y.2 < 2 ^ few) (fun y => .int .i64 (y.2 : Int)) rfl rfl F.ent63 (fun a w ha => (FaultsOf_c (C := ⟨Tryd.prog, B, w0, _, _⟩) rfl hB hN (tk := tk + 1 + few + few + 1 + few) (st := s5) (few := few) (by omega) hs5 hfew ha).mono (fun e w' h => by obtain ⟨s', x, h1, h2, h3, h4⟩ := h; exact ⟨(s', x), ⟨h1, h2⟩, h3, h4⟩)) ?_
          rintro ⟨s6, f4⟩ ⟨hs6, hf4⟩
          dsimp only at hs6 hf4 ⊢
          have hlf4 : f4 < 64 := few64 hf4 hfew
          refine lst_nil ?_
          refine any_next (by repeat (first | exact List.Sublist.refl _ | exact List.nil_sublist _ | refine List.Sublist.cons_cons _ ?_ | refine List.Sublist.cons _ ?_)) ?_
          refine any_take (listed' := [true, false, true, true, true, true, true, true, true, false, false, false].toArray) 8 rfl rfl rfl (by kernel_rfl) (by kernel_rfl) (by kernel_rfl) (by repeat (first | exact List.Sublist.refl _ | exact List.nil_sublist _ | refine List.Sublist.cons_cons _ ?_ | refine List.Sublist.cons _ ?_)) (yld_int rfl rfl (fun w => bin_and w (i64_and f3 f4 (by omega) (by omega)))) rfl ?_
          refine any_one (listed' := [true, true, true, true, true, true, true, true, true, false, false, false].toArray) 1 (by kernel_rfl) rfl rfl ?_
          refine lst_load rfl rfl F.one3 ?_
          refine lst_nil ?_
          refine any_next (by repeat (first | exact List.Sublist.refl _ | exact List.nil_sublist _ | refine List.Sublist.cons_cons _ ?_ | refine List.Sublist.cons _ ?_)) ?_
          have hl34 : f3 &&& f4 < 64 := and64 hlf3
          refine any_take (listed' := [true, true, true, true, true, true, true, true, true, true, false, false].toArray) 9 rfl rfl rfl (by kernel_rfl) (by kernel_rfl) (by kernel_rfl) (by repeat (first | exact List.Sublist.refl _ | exact List.nil_sublist _ | refine List.Sublist.cons_cons _ ?_ | refine List.Sublist.cons _ ?_)) (yld_int rfl rfl (fun w => bin_or w (i64_or k0 (f3 &&& f4) (by omega) (by omega)))) rfl ?_
          refine any_take (listed' := [true, true, true, true, true, true, true, true, true, true, true, false].toArray) 10 rfl rfl rfl (by kernel_rfl) (by kernel_rfl) (by kernel_rfl) (by repeat (first | exact List.Sublist.refl _ | exact List.nil_sublist _ | refine List.Sublist.cons_cons _ ?_ | refine List.Sublist.cons _ ?_)) (yld_field_z rfl F.fi24_2 F.ti3) rfl ?_
          refine any_one (listed' := [true, true, true, true, true, true, true, true, true, true, true, true].toArray) 11 (by kernel_rfl) rfl rfl ?_
          refine lst_store rfl rfl F.ti3 rfl ?_
          refine lst_nil ?_
          refine any_next (by repeat (first | exact List.Sublist.refl _ | exact List.nil_sublist _ | refine List.Sublist.cons_cons _ ?_ | refine List.Sublist.cons _ ?_)) ?_
          refine any_done rfl (by kernel_rfl) ?_
          exact ex_ghost (s6, k0 ||| f3 &&& f4) ⟨hs6, or64 hk0 hl34⟩ (by repeat (first | exact Sub.nil _ | refine Sub.cons rfl ?_)) (by repeat (first | exact Pck.nil _ | exact Pck.refl _ | (apply Pck.cons; focus ((repeat (first | exact Rem.here _ | apply Rem.there)); done)) | refine Pck.skip _ ?_))
    · skip
      rintro ⟨s6, k1⟩ ⟨hs6, hk1⟩
      dsimp only at hs6 hk1 ⊢
      refine ex_then ?_
      refine cod_seq ?_
      refine cod_seq ?_
      refine cod_region ?_
      refine lst_move rfl rfl ?_
      refine lst_call_pul (X := Nat × Bool) (vs := [_, _]) hb (fun y => hatO nA nums.length nc (tk + 1 + few + few + 1 + few + few + 1) (y.1)) (fun y => y.1 < 18446744073709551616) (fun y => .bool y.2) rfl rfl F.ent93 (fun a w ha => (Seldom_c (C := ⟨Tryd.prog, B, w0, _, _⟩) rfl hB hN (tk := tk + 1 + few + few + 1 + few + few) (st := s6) (n := 3) (by omega) hs6 (by omega) (by omega) ha).mono (fun e w' h => by obtain ⟨s', b, h1, h2, h3⟩ := h; exact ⟨(s', b), h1, h2, h3⟩)) ?_
      rintro ⟨s7, bl1⟩ hs7
      dsimp only at hs7 ⊢
      refine lst_not rfl rfl ?_
      refine lst_nil ?_
      refine ex_then ?_
      refine cod_cond_bool rfl (fun hc0 => ?_) (fun hc0 => ?_)
      · skip
        refine cod_region ?_
        refine lst_move rfl rfl ?_
        refine lst_move rfl rfl ?_
        refine lst_int rfl rfl rfl (fun w => bin_sub w (wrap_i64' ((few : Int) - 1) (by omega) (by omega))) ?_
        refine lst_call_pul (X := Nat × Nat) (vs := [_, _]) hb (fun y => hatO nA nums.length nc (tk + 1 + few + few + 1 + few + few + 1 + 1) (y.1)) (fun y => y.1 < 18446744073709551616 ∧ y.2 ≤ ((few : Int) - 1 : Int).toNat) (fun y => .int .i64 (y.2 : Int)) rfl rfl F.ent25 (fun a w ha => (To_c (C := ⟨Tryd.prog, B, w0, _, _⟩) rfl hB hN (tk := tk + 1 + few + few + 1 + few + few + 1) (st := s7) (n := (few : Int) - 1) (by omega) hs7 (by omega) ha).mono (fun e w' h => by obtain ⟨s', x, h1, h2, h3, h4⟩ := h; exact ⟨(s', x), ⟨h1, h2⟩, h3, h4⟩)) ?_
        rintro ⟨s8, t2⟩ ⟨hs8, ht2⟩
        dsimp only at hs8 ht2 ⊢
        have hlt2 : 2 ^ t2 < 64 := pow64 ht2 hf1 hfew
        refine lst_shl rfl rfl rfl (by omega) (shl_i64 (by omega)) ?_
        refine lst_field_z rfl rfl F.fi24_0 F.ti3 ?_
        refine lst_store rfl rfl F.ti3 rfl ?_
        refine lst_nil ?_
        refine ex_then ?_
        refine cod_seq ?_
        refine cod_seq ?_
        refine cod_region ?_
        refine lst_move rfl rfl ?_
        refine lst_call_pul (X := Nat × Bool) (vs := [_, _]) hb (fun y => hatO nA nums.length nc (tk + 1 + few + few + 1 + few + few + 1 + 1 + 1) (y.1)) (fun y => y.1 < 18446744073709551616) (fun y => .bool y.2) rfl rfl F.ent93 (fun a w ha => (Seldom_c (C := ⟨Tryd.prog, B, w0, _, _⟩) rfl hB hN (tk := tk + 1 + few + few + 1 + few + few + 1 + 1) (st := s8) (n := 3) (by omega) hs8 (by omega) (by omega) ha).mono (fun e w' h => by obtain ⟨s', b, h1, h2, h3⟩ := h; exact ⟨(s', b), h1, h2, h3⟩)) ?_
        rintro ⟨s9, bl2⟩ hs9
        dsimp only at hs9 ⊢
        refine lst_nil ?_
        refine ex_then ?_
        refine cod_cond_bool rfl (fun hc1 => ?_) (fun hc1 => ?_)
        · skip
          refine cod_ghost (G := Nat × Nat) (fun g => g.1 < 18446744073709551616 ∧ g.2 < 64 ∧ (2 ^ t2) &&& g.2 = 0) (fun g => [(0, .pointer (some ⟨hb, 0, none⟩)), (1, .int .i64 (few : Int)), (4, .pointer (some ⟨b4, 0, none⟩)), (5, .pointer (some ⟨b5, 0, none⟩))]) (fun g => .blk hb (hatO nA nums.length nc (tk + 1 + few + few + 1 + few + few + 1 + 1 + 1 + 1) (g.1)) :: .blk b5 (.cells [.int .i64 ((2 ^ t2 : Nat) : Int), .int .i64 (g.2 : Int), .int .i64 (k1 : Int), .int .i64 (l0 : Int), .int .i64 (c0 : Int)].toArray 24 (0, 0)) :: .blk b4 (.cells [.int .i64 0, .int .i64 0, .int .i64 0, .int .i64 0, .int .i64 0].toArray 24 (0, 0)) :: T) ?_ ?_
          · skip
            refine any_begin [.b b5, .b hb] F.follows 10 rfl [false, false, false, false, false, false, false, false, false, false] rfl ?_
            refine any_take (listed' := [true, false, false, false, false, false, false, false, false, false].toArray) 0 rfl rfl rfl (by kernel_rfl) (by kernel_rfl) (by kernel_rfl) (by repeat (first | exact List.Sublist.refl _ | exact List.nil_sublist _ | refine List.Sublist.cons_cons _ ?_ | refine List.Sublist.cons _ ?_)) (yld_move rfl) rfl ?_
            refine any_take (listed' := [true, true, false, false, false, false, false, false, false, false].toArray) 1 rfl rfl rfl (by kernel_rfl) (by kernel_rfl) (by kernel_rfl) (by repeat (first | exact List.Sublist.refl _ | exact List.nil_sublist _ | refine List.Sublist.cons_cons _ ?_ | refine List.Sublist.cons _ ?_)) (yld_move rfl) rfl ?_
            refine any_take (listed' := [true, true, true, false, false, false, false, false, false, false].toArray) 2 rfl rfl rfl (by kernel_rfl) (by kernel_rfl) (by kernel_rfl) (by repeat (first | exact List.Sublist.refl _ | exact List.nil_sublist _ | refine List.Sublist.cons_cons _ ?_ | refine List.Sublist.cons _ ?_)) (yld_int rfl rfl (fun w => bin_sub w (wrap_i64' ((few : Int) - 1) (by omega) (by omega)))) rfl ?_
            refine any_take (listed' := [true, true, true, false, false, true, false, false, false, false].toArray) 5 rfl rfl rfl (by kernel_rfl) (by kernel_rfl) (by kernel_rfl) (by repeat (first | exact List.Sublist.refl _ | exact List.nil_sublist _ | refine List.Sublist.cons_cons _ ?_ | refine List.Sublist.cons _ ?_)) (yld_field_z rfl F.fi24_0 F.ti3) rfl ?_
            refine any_two (l1 := [true, true, true, true, false, true, false, false, false, false].toArray) (l2 := [true, true, true, false, false, true, true, false, false, false].toArray) 3 6 (by kernel_rfl) rfl rfl rfl rfl ?_ ?_
            · skip
              refine lst_call_pul (X := Nat × Nat) (vs := [_, _]) hb (fun y => hatO nA nums.length nc (tk + 1 + few + few + 1 + few + few + 1 + 1 + 1 + 1) (y.1)) (fun y => y.1 < 18446744073709551616 ∧ y.2 ≤ ((few : Int) - 1 : Int).toNat) (fun y => .int .i64 (y.2 : Int)) rfl rfl F.ent25 (fun a w ha => (To_c (C := ⟨Tryd.prog, B, w0, _, _⟩) rfl hB hN (tk := tk + 1 + few + few + 1 + few + few + 1 + 1 + 1) (st := s9) (n := (few : Int) - 1) (by omega) hs9 (by omega) ha).mono (fun e w' h => by obtain ⟨s', x, h1, h2, h3, h4⟩ := h; exact ⟨(s', x), ⟨h1, h2⟩, h3, h4⟩)) ?_
              rintro ⟨s10, t3⟩ ⟨hs10, ht3⟩
              dsimp only at hs10 ht3 ⊢
              have hlt3 : 2 ^ t3 < 64 := pow64 ht3 hf1 hfew
              refine lst_nil ?_
              refine any_next (by repeat (first | exact List.Sublist.refl _ | exact List.nil_sublist _ | refine List.Sublist.cons_cons _ ?_ | refine List.Sublist.cons _ ?_)) ?_
              refine any_take (listed' := [true, true, true, true, true, true, false, false, false, false].toArray) 4 rfl rfl rfl (by kernel_rfl) (by kernel_rfl) (by kernel_rfl) (by repeat (first | exact List.Sublist.refl _ | exact List.nil_sublist _ | refine List.Sublist.cons_cons _ ?_ | refine List.Sublist.cons _ ?_)) (yld_shl rfl rfl (by omega) (shl_i64 (by omega))) rfl ?_
              refine any_one (listed' := [true, true, true, true, true, true, true, false, false, false].toArray) 6 (by kernel_rfl) rfl rfl ?_
              refine lst_load rfl rfl F.one3 ?_
              refine lst_nil ?_
              refine any_next (by repeat (first | exact List.Sublist.refl _ | exact List.nil_sublist _ | refine List.Sublist.cons_cons _ ?_ | refine List.Sublist.cons _ ?_)) ?_
              refine any_take (listed' := [true, true, true, true, true, true, true, true, false, false].toArray) 7 rfl rfl rfl (by kernel_rfl) (by kernel_rfl) (by kernel_rfl) (by repeat (first | exact List.Sublist.refl _ | exact List.nil_sublist _ | refine List.Sublist.cons_cons _ ?_ | refine List.Sublist.cons _ ?_)) (yld_int rfl rfl (fun w => bin_andNot w (i64_andNot (2 ^ t3) (2 ^ t2) (by omega) (by omega)))) rfl ?_
              refine any_take (listed' := [true, true, true, true, true, true, true, true, true, false].toArray) 8 rfl rfl rfl (by kernel_rfl) (by kernel_rfl) (by kernel_rfl) (by repeat (first | exact List.Sublist.refl _ | exact List.nil_sublist _ | refine List.Sublist.cons_cons _ ?_ | refine List.Sublist.cons _ ?_)) (yld_field_z rfl F.fi24_1 F.ti3) rfl ?_
              refine any_one (listed' := [true, true, true, true, true, true, true, true, true, true].toArray) 9 (by kernel_rfl) rfl rfl ?_
              refine lst_store rfl rfl F.ti3 rfl ?_
              refine lst_nil ?_
              refine any_next (by repeat (first | exact List.Sublist.refl _ | exact List.nil_sublist _ | refine List.Sublist.cons_cons _ ?_ | refine List.Sublist.cons _ ?_)) ?_
              refine any_done rfl (by kernel_rfl) ?_
              exact ex_ghost (s10, nn (2 ^ t3) (2 ^ t2)) ⟨hs10, nn64 hlt3, nn_apart _ _⟩ (by repeat (first | exact Sub.nil _ | refine Sub.cons rfl ?_)) (by repeat (first | exact Pck.nil _ | exact Pck.refl _ | (apply Pck.cons; focus ((repeat (first | exact Rem.here _ | apply Rem.there)); done)) | refine Pck.skip _ ?_))
            · skip
              refine lst_load rfl rfl F.one3 ?_
              refine lst_nil ?_
              refine any_next (by repeat (first | exact List.Sublist.refl _ | exact List.nil_sublist _ | refine List.Sublist.cons_cons _ ?_ | refine List.Sublist.cons _ ?_)) ?_
              refine any_one (listed' := [true, true, true, true, false, true, true, false, false, false].toArray) 3 (by kernel_rfl) rfl rfl ?_
              refine lst_call_pul (X := Nat × Nat) (vs := [_, _]) hb (fun y => hatO nA nums.length nc (tk + 1 + few + few + 1 + few + few + 1 + 1 + 1 + 1) (y.1)) (fun y => y.1 < 18446744073709551616 ∧ y.2 ≤ ((few : Int) - 1 : Int).toNat) (fun y => .int .i64 (y.2 : Int)) rfl rfl F.ent25 (fun a w ha => (To_c (C := ⟨Tryd.prog, B, w0, _, _⟩) rfl hB hN (tk := tk + 1 + few + few + 1 + few + few + 1 + 1 + 1) (st := s9) (n := (few : Int) - 1) (by omega) hs9 (by omega) ha).mono (fun e w' h => by obtain ⟨s', x, h1, h2, h3, h4⟩ := h; exact ⟨(s', x), ⟨h1, h2⟩, h3, h4⟩)) ?_
              rintro ⟨s10, t3⟩ ⟨hs10, ht3⟩
              dsimp only at hs10 ht3 ⊢
              have hlt3 : 2 ^ t3 < 64 := pow64 ht3 hf1 hfew
              refine lst_nil ?_
              refine any_next (by repeat (first | exact List.Sublist.refl _ | exact List.nil_sublist _ | refine List.Sublist.cons_cons _ ?_ | refine List.Sublist.cons _ ?_)) ?_
              refine any_take (listed' := [true, true, true, true, true, true, true, false, false, false].toArray) 4 rfl rfl rfl (by kernel_rfl) (by kernel_rfl) (by kernel_rfl) (by repeat (first | exact List.Sublist.refl _ | exact List.nil_sublist _ | refine List.Sublist.cons_cons _ ?_ | refine List.Sublist.cons _ ?_)) (yld_shl rfl rfl (by omega) (shl_i64 (by omega))) rfl ?_
              refine any_take (listed' := [true, true, true, true, true, true, true, true, false, false].toArray) 7 rfl rfl rfl (by kernel_rfl) (by kernel_rfl) (by kernel_rfl) (by repeat (first | exact List.Sublist.refl _ | exact List.nil_sublist _ | refine List.Sublist.cons_cons _ ?_ | refine List.Sublist.cons _ ?_)) (yld_int rfl rfl (fun w => bin_andNot w (i64_andNot (2 ^ t3) (2 ^ t2) (by omega) (by omega)))) rfl ?_
              refine any_take (listed' := [true, true, true, true, true, true, true, true, true, false].toArray) 8 rfl rfl rfl (by kernel_rfl) (by kernel_rfl) (by kernel_rfl) (by repeat (first | exact List.Sublist.refl _ | exact List.nil_sublist _ | refine List.Sublist.cons_cons _ ?_ | refine List.Sublist.cons _ ?_)) (yld_field_z rfl F.fi24_1 F.ti3) rfl ?_
              refine any_one (listed' := [true, true, true, true, true, true, true, true, true, true].toArray) 9 (by kernel_rfl) rfl rfl ?_
              refine lst_store rfl rfl F.ti3 rfl ?_
              refine lst_nil ?_
              refine any_next (by repeat (first | exact List.Sublist.refl _ | exact List.nil_sublist _ | refine List.Sublist.cons_cons _ ?_ | refine List.Sublist.cons _ ?_)) ?_
              refine any_done rfl (by kernel_rfl) ?_
              exact ex_ghost (s10, nn (2 ^ t3) (2 ^ t2)) ⟨hs10, nn64 hlt3, nn_apart _ _⟩ (by repeat (first | exact Sub.nil _ | refine Sub.cons rfl ?_)) (by repeat (first | exact Pck.nil _ | exact Pck.refl _ | (apply Pck.cons; focus ((repeat (first | exact Rem.here _ | apply Rem.there)); done)) | refine Pck.skip _ ?_))
          · skip
            rintro ⟨s10, q1⟩ ⟨hs10, hq1, hq2⟩
            dsimp only at hs10 hq1 hq2 ⊢
            refine ex_then ?_
            refine cod_seq ?_
            refine cod_region ?_
            refine lst_loadN rfl rfl F.agg24 F.ti24 ?_
            refine lst_store rfl rfl F.ti24 rfl ?_
            refine lst_nil ?_
            refine ex_then ?_
            refine cod_ret ?_
            exact ex_ret rfl (fun a w ha => by exact res_cellN (ha := ha) rfl rfl F.agg24 F.ti24 rfl) (fun _ _ ha' => ⟨tk + 1 + few + few + 1 + few + few + 1 + 1 + 1 + 1, s10, ⟨2 ^ t2, q1, k1, l0, c0⟩, by omega, hs10, ⟨hlt2, hq1, hk1, hl0, hq2, ⟨hc0a, hc0b⟩⟩, rfl, ha.back (ha'.pck (by repeat (first | exact Pck.nil _ | exact Pck.refl _ | (apply Pck.cons; focus ((repeat (first | exact Rem.here _ | apply Rem.there)); done)) | refine Pck.skip _ ?_)))⟩)
        · skip
          refine cod_skip ?_
          refine ex_then ?_
          refine cod_seq ?_
          refine cod_region ?_
          refine lst_loadN rfl rfl F.agg24 F.ti24 ?_
          refine lst_store rfl rfl F.ti24 rfl ?_
          refine lst_nil ?_
          refine ex_then ?_
          refine cod_ret ?_
          exact ex_ret rfl (fun a w ha => by exact res_cellN (ha := ha) rfl rfl F.agg24 F.ti24 rfl) (fun _ _ ha' => ⟨tk + 1 + few + few + 1 + few + few + 1 + 1 + 1, s9, ⟨2 ^ t2, 0, k1, l0, c0⟩, by omega, hs9, ⟨hlt2, (show (0 : Nat) < 64 by omega), hk1, hl0, Nat.and_zero _, ⟨hc0a, hc0b⟩⟩, rfl, ha.back (ha'.pck (by repeat (first | exact Pck.nil _ | exact Pck.refl _ | (apply Pck.cons; focus ((repeat (first | exact Rem.here _ | apply Rem.there)); done)) | refine Pck.skip _ ?_)))⟩)
      · skip
        refine cod_skip ?_
        refine ex_then ?_
        refine cod_seq ?_
        refine cod_seq ?_
        refine cod_region ?_
        refine lst_move rfl rfl ?_
        refine lst_call_pul (X := Nat × Bool) (vs := [_, _]) hb (fun y => hatO nA nums.length nc (tk + 1 + few + few + 1 + few + few + 1 + 1) (y.1)) (fun y => y.1 < 18446744073709551616) (fun y => .bool y.2) rfl rfl F.ent93 (fun a w ha => (Seldom_c (C := ⟨Tryd.prog, B, w0, _, _⟩) rfl hB hN (tk := tk + 1 + few + few + 1 + few + few + 1) (st := s7) (n := 3) (by omega) hs7 (by omega) (by omega) ha).mono (fun e w' h => by obtain ⟨s', b, h1, h2, h3⟩ := h; exact ⟨(s', b), h1, h2, h3⟩)) ?_
        rintro ⟨s9, bl2⟩ hs9
        dsimp only at hs9 ⊢
        refine lst_nil ?_
        refine ex_then ?_
        refine cod_cond_bool rfl (fun hc1 => ?_) (fun hc1 => ?_)
        · skip
          refine cod_ghost (G := Nat × Nat) (fun g => g.1 < 18446744073709551616 ∧ g.2 < 64 ∧ 0 &&& g.2 = 0) (fun g => [(0, .pointer (some ⟨hb, 0, none⟩)), (1, .int .i64 (few : Int)), (4, .pointer (some ⟨b4, 0, none⟩)), (5, .pointer (some ⟨b5, 0, none⟩))]) (fun g => .blk hb (hatO nA nums.length nc (tk + 1 + few + few + 1 + few + few + 1 + 1 + 1) (g.1)) :: .blk b5 (.cells [.int .i64 ((0 : Nat) : Int), .int .i64 (g.2 : Int), .int .i64 (k1 : Int), .int .i64 (l0 : Int), .int .i64 (c0 : Int)].toArray 24 (0, 0)) :: .blk b4 (.cells [.int .i64 0, .int .i64 0, .int .i64 0, .int .i64 0, .int .i64 0].toArray 24 (0, 0)) :: T) ?_ ?_
          · skip
            refine any_begin [.b b5, .b hb] F.follows 10 rfl [false, false, false, false, false, false, false, false, false, false] rfl ?_
            refine any_take (listed' := [true, false, false, false, false, false, false, false, false, false].toArray) 0 rfl rfl rfl (by kernel_rfl) (by kernel_rfl) (by kernel_rfl) (by repeat (first | exact List.Sublist.refl _ | exact List.nil_sublist _ | refine List.Sublist.cons_cons _ ?_ | refine List.Sublist.cons _ ?_)) (yld_move rfl) rfl ?_
            refine any_take (listed' := [true, true, false, false, false, false, false, false, false, false].toArray) 1 rfl rfl rfl (by kernel_rfl) (by kernel_rfl) (by kernel_rfl) (by repeat (first | exact List.Sublist.refl _ | exact List.nil_sublist _ | refine List.Sublist.cons_cons _ ?_ | refine List.Sublist.cons _ ?_)) (yld_move rfl) rfl ?_
            refine any_take (listed' := [true, true, true, false, false, false, false, false, false, false].toArray) 2 rfl rfl rfl (by kernel_rfl) (by kernel_rfl) (by kernel_rfl) (by repeat (first | exact List.Sublist.refl _ | exact List.nil_sublist _ | refine List.Sublist.cons_cons _ ?_ | refine List.Sublist.cons _ ?_)) (yld_int rfl rfl (fun w => bin_sub w (wrap_i64' ((few : Int) - 1) (by omega) (by omega)))) rfl ?_
            refine any_take (listed' := [true, true, true, false, false, true, false, false, false, false].toArray) 5 rfl rfl rfl (by kernel_rfl) (by kernel_rfl) (by kernel_rfl) (by repeat (first | exact List.Sublist.refl _ | exact List.nil_sublist _ | refine List.Sublist.cons_cons _ ?_ | refine List.Sublist.cons _ ?_)) (yld_field_z rfl F.fi24_0 F.ti3) rfl ?_
            refine any_two (l1 := [true, true, true, true, false, true, false, false, false, false].toArray) (l2 := [true, true, true, false, false, true, true, false, false, false].toArray) 3 6 (by kernel_rfl) rfl rfl rfl rfl ?_ ?_
            · skip
              refine lst_call_pul (X := Nat × Nat) (vs := [_, _]) hb (fun y => hatO nA nums.length nc (tk + 1 + few + few + 1 + few + few + 1 + 1 + 1) (y.1)) (fun y => y.1 < 18446744073709551616 ∧ y.2 ≤ ((few : Int) - 1 : Int).toNat) (fun y => .int .i64 (y.2 : Int)) rfl rfl F.ent25 (fun a w ha => (To_c (C := ⟨Tryd.prog, B, w0, _, _⟩) rfl hB hN (tk := tk + 1 + few + few + 1 + few + few + 1 + 1) (st := s9) (n := (few : Int) - 1) (by omega) hs9 (by omega) ha).mono (fun e w' h => by obtain ⟨s', x, h1, h2, h3, h4⟩ := h; exact ⟨(s', x), ⟨h1, h2⟩, h3, h4⟩)) ?_
              rintro ⟨s10, t3⟩ ⟨hs10, ht3⟩
              dsimp only at hs10 ht3 ⊢
              have hlt3 : 2 ^ t3 < 64 := pow64 ht3 hf1 hfew
              refine lst_nil ?_
              refine any_next (by repeat (first | exact List.Sublist.refl _ | exact List.nil_sublist _ | refine List.Sublist.cons_cons _ ?_ | refine List.Sublist.cons _ ?_)) ?_
              refine any_take (listed' := [true, true, true, true, true, true, false, false, false, false].toArray) 4 rfl rfl rfl (by kernel_rfl) (by kernel_rfl) (by kernel_rfl) (by repeat (first | exact List.Sublist.refl _ | exact List.nil_sublist _ | refine List.Sublist.cons_cons _ ?_ | refine List.Sublist.cons _ ?_)) (yld_shl rfl rfl (by omega) (shl_i64 (by omega))) rfl ?_
              refine any_one (listed' := [true, true, true, true, true, true, true, false, false, false].toArray) 6 (by kernel_rfl) rfl rfl ?_
              refine lst_load rfl rfl F.one3 ?_
              refine lst_nil ?_
              refine any_next (by repeat (first | exact List.Sublist.refl _ | exact List.nil_sublist _ | refine List.Sublist.cons_cons _ ?_ | refine List.Sublist.cons _ ?_)) ?_
              refine any_take (listed' := [true, true, true, true, true, true, true, true, false, false].toArray) 7 rfl rfl rfl (by kernel_rfl) (by kernel_rfl) (by kernel_rfl) (by repeat (first | exact List.Sublist.refl _ | exact List.nil_sublist _ | refine List.Sublist.cons_cons _ ?_ | refine List.Sublist.cons _ ?_)) (yld_int rfl rfl (fun w => bin_andNot w (i64_andNot (2 ^ t3) 0 (by omega) (by omega)))) rfl ?_
              refine any_take (listed' := [true, true, true, true, true, true, true, true, true, false].toArray) 8 rfl rfl rfl (by kernel_rfl) (by kernel_rfl) (by kernel_rfl) (by repeat (first | exact List.Sublist.refl _ | exact List.nil_sublist _ | refine List.Sublist.cons_cons _ ?_ | refine List.Sublist.cons _ ?_)) (yld_field_z rfl F.fi24_1 F.ti3) rfl ?_
              refine any_one (listed' := [true, true, true, true, true, true, true, true, true, true].toArray) 9 (by kernel_rfl) rfl rfl ?_
              refine lst_store rfl rfl F.ti3 rfl ?_
              refine lst_nil ?_
              refine any_next (by repeat (first | exact List.Sublist.refl _ | exact List.nil_sublist _ | refine List.Sublist.cons_cons _ ?_ | refine List.Sublist.cons _ ?_)) ?_
              refine any_done rfl (by kernel_rfl) ?_
              exact ex_ghost (s10, nn (2 ^ t3) 0) ⟨hs10, nn64 hlt3, nn_apart _ _⟩ (by repeat (first | exact Sub.nil _ | refine Sub.cons rfl ?_)) (by repeat (first | exact Pck.nil _ | exact Pck.refl _ | (apply Pck.cons; focus ((repeat (first | exact Rem.here _ | apply Rem.there)); done)) | refine Pck.skip _ ?_))
            · skip
              refine lst_load rfl rfl F.one3 ?_
              refine lst_nil ?_
              refine any_next (by repeat (first | exact List.Sublist.refl _ | exact List.nil_sublist _ | refine List.Sublist.cons_cons _ ?_ | refine List.Sublist.cons _ ?_)) ?_
              refine any_one (listed' := [true, true, true, true, false, true, true, false, false, false].toArray) 3 (by kernel_rfl) rfl rfl ?_
              refine lst_call_pul (X := Nat × Nat) (vs := [_, _]) hb (fun y => hatO nA nums.length nc (tk + 1 + few + few + 1 + few + few + 1 + 1 + 1) (y.1)) (fun y => y.1 < 18446744073709551616 ∧ y.2 ≤ ((few : Int) - 1 : Int).toNat) (fun y => .int .i64 (y.2 : Int)) rfl rfl F.ent25 (fun a w ha => (To_c (C := ⟨Tryd.prog, B, w0, _, _⟩) rfl hB hN (tk := tk + 1 + few + few + 1 + few + few + 1 + 1) (st := s9) (n := (few : Int) - 1) (by omega) hs9 (by omega) ha).mono (fun e w' h => by obtain ⟨s', x, h1, h2, h3, h4⟩ := h; exact ⟨(s', x), ⟨h1, h2⟩, h3, h4⟩)) ?_
              rintro ⟨s10, t3⟩ ⟨hs10, ht3⟩
              dsimp only at hs10 ht3 ⊢
              have hlt3 : 2 ^ t3 < 64 := pow64 ht3 hf1 hfew
              refine lst_nil ?_
              refine any_next (by repeat (first | exact List.Sublist.refl _ | exact List.nil_sublist _ | refine List.Sublist.cons_cons _ ?_ | refine List.Sublist.cons _ ?_)) ?_
              refine any_take (listed' := [true, true, true, true, true, true, true, false, false, false].toArray) 4 rfl rfl rfl (by kernel_rfl) (by kernel_rfl) (by kernel_rfl) (by repeat (first | exact List.Sublist.refl _ | exact List.nil_sublist _ | refine List.Sublist.cons_cons _ ?_ | refine List.Sublist.cons _ ?_)) (yld_shl rfl rfl (by omega) (shl_i64 (by omega))) rfl ?_
              refine any_take (listed' := [true, true, true, true, true, true, true, true, false, false].toArray) 7 rfl rfl rfl (by kernel_rfl) (by kernel_rfl) (by kernel_rfl) (by repeat (first | exact List.Sublist.refl _ | exact List.nil_sublist _ | refine List.Sublist.cons_cons _ ?_ | refine List.Sublist.cons _ ?_)) (yld_int rfl rfl (fun w => bin_andNot w (i64_andNot (2 ^ t3) 0 (by omega) (by omega)))) rfl ?_
              refine any_take (listed' := [true, true, true, true, true, true, true, true, true, false].toArray) 8 rfl rfl rfl (by kernel_rfl) (by kernel_rfl) (by kernel_rfl) (by repeat (first | exact List.Sublist.refl _ | exact List.nil_sublist _ | refine List.Sublist.cons_cons _ ?_ | refine List.Sublist.cons _ ?_)) (yld_field_z rfl F.fi24_1 F.ti3) rfl ?_
              refine any_one (listed' := [true, true, true, true, true, true, true, true, true, true].toArray) 9 (by kernel_rfl) rfl rfl ?_
              refine lst_store rfl rfl F.ti3 rfl ?_
              refine lst_nil ?_
              refine any_next (by repeat (first | exact List.Sublist.refl _ | exact List.nil_sublist _ | refine List.Sublist.cons_cons _ ?_ | refine List.Sublist.cons _ ?_)) ?_
              refine any_done rfl (by kernel_rfl) ?_
              exact ex_ghost (s10, nn (2 ^ t3) 0) ⟨hs10, nn64 hlt3, nn_apart _ _⟩ (by repeat (first | exact Sub.nil _ | refine Sub.cons rfl ?_)) (by repeat (first | exact Pck.nil _ | exact Pck.refl _ | (apply Pck.cons; focus ((repeat (first | exact Rem.here _ | apply Rem.there)); done)) | refine Pck.skip _ ?_))
          · skip
            rintro ⟨s10, q1⟩ ⟨hs10, hq1, hq2⟩
            dsimp only at hs10 hq1 hq2 ⊢
            refine ex_then ?_
            refine cod_seq ?_
            refine cod_region ?_
            refine lst_loadN rfl rfl F.agg24 F.ti24 ?_
            refine lst_store rfl rfl F.ti24 rfl ?_
            refine lst_nil ?_
            refine ex_then ?_
            refine cod_ret ?_
            exact ex_ret rfl (fun a w ha => by exact res_cellN (ha := ha) rfl rfl F.agg24 F.ti24 rfl) (fun _ _ ha' => ⟨tk + 1 + few + few + 1 + few + few + 1 + 1 + 1, s10, ⟨0, q1, k1, l0, c0⟩, by omega, hs10, ⟨(show (0 : Nat) < 64 by omega), hq1, hk1, hl0, hq2, ⟨hc0a, hc0b⟩⟩, rfl, ha.back (ha'.pck (by repeat (first | exact Pck.nil _ | exact Pck.refl _ | (apply Pck.cons; focus ((repeat (first | exact Rem.here _ | apply Rem.there)); done)) | refine Pck.skip _ ?_)))⟩)
        · skip
          refine cod_skip ?_
          refine ex_then ?_
          refine cod_seq ?_
          refine cod_region ?_
          refine lst_loadN rfl rfl F.agg24 F.ti24 ?_
          refine lst_store rfl rfl F.ti24 rfl ?_
          refine lst_nil ?_
          refine ex_then ?_
          refine cod_ret ?_
          exact ex_ret rfl (fun a w ha => by exact res_cellN (ha := ha) rfl rfl F.agg24 F.ti24 rfl) (fun _ _ ha' => ⟨tk + 1 + few + few + 1 + few + few + 1 + 1, s9, ⟨0, 0, k1, l0, c0⟩, by omega, hs9, ⟨(show (0 : Nat) < 64 by omega), (show (0 : Nat) < 64 by omega), hk1, hl0, Nat.and_zero _, ⟨hc0a, hc0b⟩⟩, rfl, ha.back (ha'.pck (by repeat (first | exact Pck.nil _ | exact Pck.refl _ | (apply Pck.cons; focus ((repeat (first | exact Rem.here _ | apply Rem.there)); done)) | refine Pck.skip _ ?_)))⟩)

end Go.Proofs.YtofkhehcnfiopaaDoor.N
namespace Go.Proofs.YtofkhehcnfiopaaDoor.N
open Go Go.RowKit Go.Proofs
theorem sub_pow {few : Nat} (h : few ≤ 6) : IntKind.i64.wrap (((2 ^ few : Nat) : Int) - 1) = ((2 ^ few - 1 : Nat) : Int) := by
  have h1 : 1 ≤ 2 ^ few := Nat.one_le_two_pow
  have h2 : 2 ^ few ≤ 2 ^ 6 := Nat.pow_le_pow_right (by omega) h
  generalize (2 : Nat) ^ few = q at *
  rw [wrap_i64' _ (by omega) (by omega)]
  omega
/-- What a melt is behind a way; none if it is no way. -/
def followN (ags : List Ag) : Nat → List Nat → Option Nat
  | f, [] => some f
  | f, i :: l => if i < ags.length ∧ mayN (ags.getD i default) f = true then followN ags (putN (ags.getD i default) f) l else none
def followV (o : Option Nat) : Nat := o.getD 0
theorem followN_step {ags : List Ag} {f k i : Nat} {way : List Nat} (hi : way[k]? = some i) : followN ags f (way.drop k) = if i < ags.length ∧ mayN (ags.getD i default) f = true then followN ags (putN (ags.getD i default) f) (way.drop (k + 1)) else none := by
  obtain ⟨hk, he⟩ := List.getElem?_eq_some_iff.1 hi
  rw [List.drop_eq_getElem_cons hk, he]
  rfl
theorem may_and {x : Ag} {f : Nat} : mayN x f = (decide (f &&& x.needs = x.needs) && decide (f &&& x.no = 0)) := by
  unfold mayN
  have e1 : nn x.needs f = 0 ↔ f &&& x.needs = x.needs := by
    constructor
    · intro h
      apply Nat.eq_of_testBit_eq
      intro i
      have := congrArg (fun n => n.testBit i) h
      simp [nn, Nat.testBit_and, Nat.testBit_xor] at this ⊢
      cases h1 : f.testBit i <;> cases h2 : x.needs.testBit i <;> simp_all
    · intro h
      apply Nat.eq_of_testBit_eq
      intro i
      have := congrArg (fun n => n.testBit i) h
      simp [nn, Nat.testBit_and, Nat.testBit_xor] at this ⊢
      cases h1 : f.testBit i <;> cases h2 : x.needs.testBit i <;> simp_all
  rw [Nat.and_comm x.no f]
  simp [e1]
end Go.Proofs.YtofkhehcnfiopaaDoor.N
namespace Go.Proofs.YtofkhehcnfiopaaDoor.N
open Go Go.RowKit Go.Proofs
theorem F.ent50 : Enters Tryd.prog 50 := enters_of Tryd.func50 rfl (by kernel_rfl)
theorem AgentsOf_c {C : Ctx} {fr : List (Nat × Value)} {T : List Res} {a : Act} {w : World} (hC : C.P = Tryd.prog) {hb tk st nc : Nat} {nA : Option Addr} {nums : List Int} (hB : C.w0.heap.size = C.B) (hN : RdL icell 1 C.w0 nA nums) (htk : tk ≤ 980000) (hst : st < 18446744073709551616) {many few : Nat} (hmany : many ≤ 4) (hf1 : 1 ≤ few) (hfew : few ≤ 6) (ha : At C fr (.blk hb (hatO nA nums.length nc (tk) (st)) :: T) a w) : Calls C.P 34 #[.pointer (some ⟨hb, 0, none⟩), .int .i64 (many : Int), .int .i64 (few : Int)] w fun e w' => ∃ (tk' st' : Nat) (l : List Ag) (A : Option Addr) (c : Nat), tk' ≤ tk + 200 ∧ st' < 18446744073709551616 ∧ l.length ≤ many ∧ (∀ x ∈ l, x.ok) ∧ e = .returned (.slice A l.length c) ∧ At C fr (.row 24 5 A l.length c (l.flatMap Ag.cells) :: .blk hb (hatO nA nums.length nc (tk') (st')) :: T) a w' := by
  obtain ⟨P, B, w0, N0, ds⟩ := C
  obtain rfl : P = Tryd.prog := hC
  (try dsimp only at hB)
  (try dsimp only at hN)
  refine enter_in (N := 23) [(0, .pointer (some ⟨hb, 0, none⟩)), (1, .int .i64 (many : Int)), (2, .int .i64 (few : Int))] ha Tryd.func34 rfl Tryd.ntmps34 rfl rfl ?_
  refine cod_seq ?_
  refine cod_region ?_
  refine lst_assign rfl rfl ?_
  refine lst_nil ?_
  refine ex_then ?_
  refine cod_seq ?_
  refine cod_region ?_
  refine lst_assign rfl rfl ?_
  refine lst_nil ?_
  refine ex_then ?_
  refine cod_seq ?_
  refine cod_seq ?_
  refine cod_region ?_
  refine lst_move rfl rfl ?_
  refine lst_move rfl rfl ?_
  refine lst_call_pul (X := Nat × Nat) (vs := [_, _, _]) hb (fun y => hatO nA nums.length nc (tk + 1) (y.1)) (fun y => y.1 < 18446744073709551616 ∧ 0 ≤ y.2 ∧ y.2 ≤ many) (fun y => .int .i64 (y.2 : Int)) rfl rfl F.ent87 (fun a w ha => (From_c (C := ⟨Tryd.prog, B, w0, _, _⟩) rfl hB hN (tk := tk) (st := st) (lo := 0) (hi := many) (by omega) hst (by omega) (by omega) ha).mono (fun e w' h => by obtain ⟨s', x, h1, h2, h3, h4, h5⟩ := h; exact ⟨(s', x), ⟨h1, h2, h3⟩, h4, h5⟩)) ?_
  rintro ⟨s1, n0⟩ ⟨hs1, _, hn0⟩
  dsimp only at hs1 hn0 ⊢
  refine lst_assign rfl rfl ?_
  refine lst_nil ?_
  refine ex_then ?_
  refine cod_block ?_
  refine cod_nil 24 5 ?_
  refine cod_loop' (G := Nat × Nat × Nat × Option Addr × Nat × List Ag) (fun g => g.1 + g.2.2.2.2.2.length ≤ many ∧ (∀ x ∈ g.2.2.2.2.2, x.ok) ∧ g.2.1 ≤ tk + 1 + 40 * g.2.2.2.2.2.length ∧ g.2.2.1 < 18446744073709551616) (fun g => g.1) (fun g => [(0, .pointer (some ⟨hb, 0, none⟩)), (1, .int .i64 (many : Int)), (2, .int .i64 (few : Int)), (7, .slice g.2.2.2.1 g.2.2.2.2.2.length g.2.2.2.2.1), (8, .int .i64 (g.1 : Int))]) (fun g => .row 24 5 g.2.2.2.1 g.2.2.2.2.2.length g.2.2.2.2.1 (g.2.2.2.2.2.flatMap Ag.cells) :: .blk hb (hatO nA nums.length nc (g.2.1) (g.2.2.1)) :: T) (n0, tk + 1, s1, none, 0, []) ⟨by simp; omega, by simp, by simp, hs1⟩ (by repeat (first | exact Sub.nil _ | refine Sub.cons rfl ?_)) (by repeat (first | exact Pck.nil _ | exact Pck.refl _ | (apply Pck.cons; focus ((repeat (first | exact Rem.here _ | apply Rem.there)); done)) | refine Pck.skip _ ?_)) ?_
  rintro ⟨i, t1, s2, A1, c1, l⟩ ⟨hil, hlo, ht1, hs2⟩
  dsimp only at hil hlo ht1 hs2 ⊢
  refine cod_seq ?_
  refine cod_seq ?_
  refine cod_region ?_
  refine lst_move rfl rfl ?_
  refine lst_int rfl rfl rfl bin_gtr ?_
  refine lst_nil ?_
  refine ex_then ?_
  refine cod_cond_dec rfl (fun hc0 => ?_) (fun hc0 => ?_)
  · skip
    obtain ⟨i, rfl⟩ : ∃ i', i = i' + 1 := ⟨i - 1, by omega⟩
    refine cod_skip ?_
    refine ex_then ?_
    refine cod_seq ?_
    refine cod_block ?_
    refine cod_region ?_
    refine lst_move rfl rfl ?_
    refine lst_move rfl rfl ?_
    refine lst_move rfl rfl ?_
    refine lst_call_pul (X := Nat × Nat × Ag) (vs := [_, _]) hb (fun y => hatO nA nums.length nc (y.1) (y.2.1)) (fun y => y.1 ≤ t1 + 40 ∧ y.2.1 < 18446744073709551616 ∧ y.2.2.ok) (fun y => .agg [.int .i64 (y.2.2.needs : Int), .int .i64 (y.2.2.no : Int), .int .i64 (y.2.2.takes : Int), .int .i64 (y.2.2.leaves : Int), .int .i64 (y.2.2.cost : Int)].toArray) rfl rfl F.ent50 (fun a w ha => (AgentOf_c (C := ⟨Tryd.prog, B, w0, _, _⟩) rfl hB hN (tk := t1) (st := s2) (few := few) (by omega) hs2 hf1 hfew ha).mono (fun e w' h => by obtain ⟨t', s', x, h1, h2, h3, h4, h5⟩ := h; exact ⟨(t', s', x), ⟨h1, h2, h3⟩, h4, h5⟩)) ?_
    rintro ⟨t2, s3, x⟩ ⟨ht2, hs3, hxo⟩
    dsimp only at ht2 hs3 hxo ⊢
    refine lst_litN (vs := [(0, _)]) [_, _, _, _, _] rfl rfl Tryd.underlying22 F.ti24 rfl rfl rfl ⟨rfl, [_, _, _, _, _], [], rfl, rfl, rfl, rfl⟩ ?_
    intro b20
    refine lst_append rfl rfl rfl Tryd.underlying22 F.ti24 rfl rfl rfl (by unfold maxLen; omega) (by omega) ?_
    intro A2 c2
    refine lst_assign rfl rfl ?_
    refine lst_nil ?_
    refine ex_block_normal ?_
    refine ex_then ?_
    refine cod_region ?_
    refine lst_move rfl rfl ?_
    refine lst_int rfl rfl rfl (fun w => bin_sub w (show IntKind.i64.wrap (((i + 1 : Nat) : Int) - 1) = (i : Int) from by rw [wrap_i64' _ (by omega) (by omega)]; omega)) ?_
    refine lst_assign rfl rfl ?_
    refine lst_nil ?_
    refine ex_round' (i, t2, s3, A2, c2, l ++ [x]) ⟨by simp; omega, fun y hy => ?_, by simp; omega, hs3⟩ (by (try dsimp only); omega) (by dsimp only; rw [List.length_append, List.length_singleton]; repeat (first | exact Sub.nil _ | refine Sub.cons rfl ?_)) (by dsimp only; rw [List.length_append, List.length_singleton, List.flatMap_append, List.flatMap_singleton]; repeat (first | exact Pck.nil _ | exact Pck.refl _ | (apply Pck.cons; focus ((repeat (first | exact Rem.here _ | apply Rem.there)); done)) | refine Pck.skip _ ?_))
    rcases List.mem_append.1 hy with h | h
    · exact hlo y h
    · simp at h; subst h; exact hxo
  · skip
    refine cod_exit ?_
    refine ex_then_exit ?_
    refine ex_then_exit ?_
    refine ex_block_exit ?_
    refine ex_then ?_
    refine cod_seq ?_
    refine cod_region ?_
    refine lst_move rfl rfl ?_
    refine lst_assign rfl rfl ?_
    refine lst_nil ?_
    refine ex_then ?_
    refine cod_ret ?_
    exact ex_ret rfl (fun a w ha => res_one rfl rfl ha) (fun _ _ ha' => ⟨t1, s2, l, A1, c1, by omega, hs2, by omega, hlo, rfl, ha.back (ha'.pck (by repeat (first | exact Pck.nil _ | exact Pck.refl _ | (apply Pck.cons; focus ((repeat (first | exact Rem.here _ | apply Rem.there)); done)) | refine Pck.skip _ ?_)))⟩)

theorem PassOf_c {C : Ctx} {fr : List (Nat × Value)} {T : List Res} {a : Act} {w : World} (hC : C.P = Tryd.prog) {hb tk st nc : Nat} {nA : Option Addr} {nums : List Int} (hB : C.w0.heap.size = C.B) (hN : RdL icell 1 C.w0 nA nums) (htk : tk ≤ 990000) (hst : st < 18446744073709551616) {few : Nat} (hfew : few ≤ 6) (ha : At C fr (.blk hb (hatO nA nums.length nc (tk) (st)) :: T) a w) : Calls C.P 26 #[.pointer (some ⟨hb, 0, none⟩), .int .i64 (few : Int)] w fun e w' => ∃ st' x : Nat, st' < 18446744073709551616 ∧ x < 64 ∧ e = .returned (.int .i64 (x : Int)) ∧ At C fr (.blk hb (hatO nA nums.length nc (tk + few + few) (st')) :: T) a w' := by
  have hpw : 2 ^ few ≤ 64 := (show 2 ^ few ≤ 2 ^ 6 from Nat.pow_le_pow_right (by omega) hfew)
  have hpw1 : 1 ≤ 2 ^ few := Nat.one_le_two_pow
  obtain ⟨P, B, w0, N0, ds⟩ := C
  obtain rfl : P = Tryd.prog := hC
  (try dsimp only at hB)
  (try dsimp only at hN)
  refine enter_in (N := 17) [(0, .pointer (some ⟨hb, 0, none⟩)), (1, .int .i64 (few : Int))] ha Tryd.func26 rfl Tryd.ntmps26 rfl rfl ?_
  refine cod_seq ?_
  refine cod_region ?_
  refine lst_assign rfl rfl ?_
  refine lst_nil ?_
  refine ex_then ?_
  refine cod_seq ?_
  refine any_begin [.b hb] F.follows 13 rfl [false, false, false, false, false, false, false, false, false, false, false, false, false] rfl ?_
  refine any_take (listed' := [true, false, false, false, false, false, false, false, false, false, false, false, false].toArray) 0 rfl rfl rfl (by kernel_rfl) (by kernel_rfl) (by kernel_rfl) (by repeat (first | exact List.Sublist.refl _ | exact List.nil_sublist _ | refine List.Sublist.cons_cons _ ?_ | refine List.Sublist.cons _ ?_)) (yld_move rfl) rfl ?_
  refine any_take (listed' := [true, true, false, false, false, false, false, false, false, false, false, false, false].toArray) 1 rfl rfl rfl (by kernel_rfl) (by kernel_rfl) (by kernel_rfl) (by repeat (first | exact List.Sublist.refl _ | exact List.nil_sublist _ | refine List.Sublist.cons_cons _ ?_ | refine List.Sublist.cons _ ?_)) (yld_shl rfl rfl (by omega) (shl_i64 (by omega))) rfl ?_
  refine any_take (listed' := [true, true, true, false, false, false, false, false, false, false, false, false, false].toArray) 2 rfl rfl rfl (by kernel_rfl) (by kernel_rfl) (by kernel_rfl) (by repeat (first | exact List.Sublist.refl _ | exact List.nil_sublist _ | refine List.Sublist.cons_cons _ ?_ | refine List.Sublist.cons _ ?_)) (yld_int rfl rfl (fun w => bin_sub w (sub_pow hfew))) rfl ?_
  refine any_take (listed' := [true, true, true, true, false, false, false, false, false, false, false, false, false].toArray) 3 rfl rfl rfl (by kernel_rfl) (by kernel_rfl) (by kernel_rfl) (by repeat (first | exact List.Sublist.refl _ | exact List.nil_sublist _ | refine List.Sublist.cons_cons _ ?_ | refine List.Sublist.cons _ ?_)) (yld_int rfl rfl (fun w => bin_andNot w (i64_andNot 63 (2 ^ few - 1) (by omega) (by omega)))) rfl ?_
  refine any_take (listed' := [true, true, true, true, true, false, false, false, false, false, false, false, false].toArray) 4 rfl rfl rfl (by kernel_rfl) (by kernel_rfl) (by kernel_rfl) (by repeat (first | exact List.Sublist.refl _ | exact List.nil_sublist _ | refine List.Sublist.cons_cons _ ?_ | refine List.Sublist.cons _ ?_)) (yld_move rfl) rfl ?_
  refine any_take (listed' := [true, true, true, true, true, true, false, false, false, false, false, false, false].toArray) 5 rfl rfl rfl (by kernel_rfl) (by kernel_rfl) (by kernel_rfl) (by repeat (first | exact List.Sublist.refl _ | exact List.nil_sublist _ | refine List.Sublist.cons_cons _ ?_ | refine List.Sublist.cons _ ?_)) (yld_move rfl) rfl ?_
  refine any_take (listed' := [true, true, true, true, true, true, false, true, false, false, false, false, false].toArray) 7 rfl rfl rfl (by kernel_rfl) (by kernel_rfl) (by kernel_rfl) (by repeat (first | exact List.Sublist.refl _ | exact List.nil_sublist _ | refine List.Sublist.cons_cons _ ?_ | refine List.Sublist.cons _ ?_)) (yld_move rfl) rfl ?_
  refine any_take (listed' := [true, true, true, true, true, true, false, true, true, false, false, false, false].toArray) 8 rfl rfl rfl (by kernel_rfl) (by kernel_rfl) (by kernel_rfl) (by repeat (first | exact List.Sublist.refl _ | exact List.nil_sublist _ | refine List.Sublist.cons_cons _ ?_ | refine List.Sublist.cons _ ?_)) (yld_move rfl) rfl ?_
  refine any_one (listed' := [true, true, true, true, true, true, true, true, true, false, false, false, false].toArray) 6 (by kernel_rfl) rfl rfl ?_
  refine lst_call_pul (X := Nat × Nat) (vs := [_, _]) hb (fun y => hatO nA nums.length nc (tk + few) (y.1)) (fun y => y.1 < 18446744073709551616 ∧ y.2 < 2 ^ few) (fun y => .int .i64 (y.2 : Int)) rfl rfl F.ent63 (fun a w ha => (FaultsOf_c (C := ⟨Tryd.prog, B, w0, _, _⟩) rfl hB hN (tk := tk) (st := st) (few := few) (by omega) hst hfew ha).mono (fun e w' h => by obtain ⟨s', x, h1, h2, h3, h4⟩ := h; exact ⟨(s', x), ⟨h1, h2⟩, h3, h4⟩)) ?_
  rintro ⟨s1, f1⟩ ⟨hs1, hf1⟩
  dsimp only at hs1 hf1 ⊢
  have hlf1 : f1 < 64 := few64 hf1 hfew
  refine lst_nil ?_
  refine any_next (by repeat (first | exact List.Sublist.refl _ | exact List.nil_sublist _ | refine List.Sublist.cons_cons _ ?_ | refine List.Sublist.cons _ ?_)) ?_
  refine any_one (listed' := [true, true, true, true, true, true, true, true, true, true, false, false, false].toArray) 9 (by kernel_rfl) rfl rfl ?_
  refine lst_call_pul (X := Nat × Nat) (vs := [_, _]) hb (fun y => hatO nA nums.length nc (tk + few + few) (y.1)) (fun y => y.1 < 18446744073709551616 ∧ y.2 < 2 ^ few) (fun y => .int .i64 (y.2 : Int)) rfl rfl F.ent63 (fun a w ha => (FaultsOf_c (C := ⟨Tryd.prog, B, w0, _, _⟩) rfl hB hN (tk := tk + few) (st := s1) (few := few) (by omega) hs1 hfew ha).mono (fun e w' h => by obtain ⟨s', x, h1, h2, h3, h4⟩ := h; exact ⟨(s', x), ⟨h1, h2⟩, h3, h4⟩)) ?_
  rintro ⟨s2, f2⟩ ⟨hs2, hf2⟩
  dsimp only at hs2 hf2 ⊢
  have hlf2 : f2 < 64 := few64 hf2 hfew
  refine lst_nil ?_
  refine any_next (by repeat (first | exact List.Sublist.refl _ | exact List.nil_sublist _ | refine List.Sublist.cons_cons _ ?_ | refine List.Sublist.cons _ ?_)) ?_
  refine any_take (listed' := [true, true, true, true, true, true, true, true, true, true, true, false, false].toArray) 10 rfl rfl rfl (by kernel_rfl) (by kernel_rfl) (by kernel_rfl) (by repeat (first | exact List.Sublist.refl _ | exact List.nil_sublist _ | refine List.Sublist.cons_cons _ ?_ | refine List.Sublist.cons _ ?_)) (yld_int rfl rfl (fun w => bin_and w (i64_and f1 f2 (by omega) (by omega)))) rfl ?_
  have hl12 : f1 &&& f2 < 64 := and64 hlf1
  have hln : nn 63 (2 ^ few - 1) < 64 := nn64 (by omega)
  refine any_take (listed' := [true, true, true, true, true, true, true, true, true, true, true, true, false].toArray) 11 rfl rfl rfl (by kernel_rfl) (by kernel_rfl) (by kernel_rfl) (by repeat (first | exact List.Sublist.refl _ | exact List.nil_sublist _ | refine List.Sublist.cons_cons _ ?_ | refine List.Sublist.cons _ ?_)) (yld_int rfl rfl (fun w => bin_or w (i64_or (nn 63 (2 ^ few - 1)) (f1 &&& f2) (by omega) (by omega)))) rfl ?_
  refine any_take (listed' := [true, true, true, true, true, true, true, true, true, true, true, true, true].toArray) 12 rfl rfl rfl (by kernel_rfl) (by kernel_rfl) (by kernel_rfl) (by repeat (first | exact List.Sublist.refl _ | exact List.nil_sublist _ | refine List.Sublist.cons_cons _ ?_ | refine List.Sublist.cons _ ?_)) (yld_assign rfl) rfl ?_
  refine any_done rfl (by kernel_rfl) ?_
  refine ex_then ?_
  refine cod_ret ?_
  exact ex_ret rfl (fun a w ha => res_one rfl rfl ha) (fun _ _ ha' => ⟨s2, _, hs2, or64 hln hl12, rfl, ha.back (ha'.pck (by repeat (first | exact Pck.nil _ | exact Pck.refl _ | (apply Pck.cons; focus ((repeat (first | exact Rem.here _ | apply Rem.there)); done)) | refine Pck.skip _ ?_)))⟩)

theorem Clear_c (f p : Nat) (hf : f < 64) (hp : p < 64) (w : World) : Calls Tryd.prog 37 #[.int .i64 (f : Int), .int .i64 (p : Int)] w fun e w' => e = .returned (.bool (decide (nn f p = 0))) ∧ Grew w w' [] := by
  refine enter (N := 9) [(0, .int .i64 (f : Int)), (1, .int .i64 (p : Int))] Tryd.func37 rfl Tryd.ntmps37 rfl rfl ?_
  refine cod_seq ?_
  refine cod_region ?_
  refine lst_assign rfl rfl ?_
  refine lst_nil ?_
  refine ex_then ?_
  refine cod_seq ?_
  refine cod_region ?_
  refine lst_move rfl rfl ?_
  refine lst_move rfl rfl ?_
  refine lst_int rfl rfl rfl (fun w => bin_andNot w (i64_andNot f p (by omega) (by omega))) ?_
  refine lst_int rfl rfl rfl bin_eql ?_
  refine lst_assign rfl rfl ?_
  refine lst_nil ?_
  refine ex_then ?_
  refine cod_ret ?_
  refine ex_ret rfl (fun a w ha => res_one rfl rfl ha) (fun a w ha => ?_)
  exact ⟨by rw [dec_zero], ha.grown (List.nil_sublist _)⟩

end Go.Proofs.YtofkhehcnfiopaaDoor.N
namespace Go.Proofs.YtofkhehcnfiopaaDoor.N
open Go Go.RowKit Go.Proofs
section
variable {C : Ctx} {fr : List (Nat × Value)} {hp hp' : List Res} {a : Act} {w : World} {ops : Array Oper} {Q : Exit → Act → World → Prop} {rest : List Oper}
  {d : Nat} {ty : TypeId} {pos : String} {after : Array Edge}
/-- Nothing is appended. -/
theorem lst_append_none {x y : Operand} {t e : TypeId} {p : Addr} {n c size bytes : Nat} {z : Value} (hd : Nat.blt d C.N = true)
    (hx : ev fr x = some (.slice (some p) n c)) (hy : ev fr y = some (.slice none 0 0)) (ht : C.P.underlying t = some (.slice e)) (hi : TI C.P e z size bytes) (hnc : n ≤ c)
    (k : Lst C ops Q rest ((d, .slice (some p) n c) :: fr) hp) :
    Lst C ops Q (⟨some d, .call { callee := .builtin .append, args := #[x, y], argTypes := #[t, t] }, ty, pos, after, none⟩ :: rest) fr hp := by
  obtain ⟨i, hi1, hi2, hi3, hi4⟩ := hi
  refine lst_value _ hd (fun a w ha => ⟨w, ?_, ha⟩) k
  have hr : (Builtin.append_ #[t, t] ty #[.slice (some p) n c, .slice none 0 0]).run C.P w = .ok (.slice (some p) n c) w := by
    simp [Builtin.append_, run_underlying ht, sizeOf, typeInfo, hi1, Builtin.lenOf, hnc, run_firstCells_none, storeCells]
  simp only [execOp, resolve, invoke, builtin, Sem.run_bind, Sem.run_pure, Result.andThen_ok, List.map_toArray, List.map_cons, List.map_nil, ha.eval hx, ha.eval hy, hr]
/-- A slice's literal is a row. -/
theorem At.as_rowN (ha : At C fr hp a w) {b e size n : Nat} {l : List Value} (hl : l.length = n * size) (hn : n ≤ maxLen) (hu : Upd (.blk b (.cells l.toArray e (0, 0))) (.row e size (some ⟨b, 0, none⟩) n n l) hp hp') : At C fr hp' a w := by
  have hb := ha.own _ hu.mem
  refine ha.turn hu (⟨rfl, rfl, rfl, Nat.le_refl _, fun _ _ _ => rfl⟩ : w.grownBy w _) ⟨hl, .inr ⟨b, n, l.toArray, rfl, hb.1, hb.2, Nat.le_refl _, hn, by simp [hl], by simp [← hl]⟩⟩ (fun k hk => .inl ?_)
  exact hk
theorem lst_as_rowN {l : List Oper} {b e : Nat} (size n : Nat) {cs : List Value} (hl : cs.length = n * size) (hn : n ≤ maxLen) (hu : Upd (.blk b (.cells cs.toArray e (0, 0))) (.row e size (some ⟨b, 0, none⟩) n n cs) hp hp') (h : Lst C ops Q l fr hp') : Lst C ops Q l fr hp := fun a w ha => h a w (ha.as_rowN hl hn hu)
end
/-- A list of numbers, somewhere. -/
structure Sl where
  A : Option Addr
  c : Nat
  l : List Nat
def Sl.val (s : Sl) : Value := .slice s.A s.l.length s.c
def Sl.res (s : Sl) : Res := .row 3 1 s.A s.l.length s.c (ints s.l)
theorem Pck.snoc (Ms : List Sl) (s : Sl) (R : List Res) : Pck ((Ms ++ [s]).map Sl.res ++ R) (s.res :: (Ms.map Sl.res ++ R)) := by
  refine .perm ?_ (.refl _)
  rw [List.map_append, List.append_assoc]
  exact List.perm_middle.symm
/-- All lists of k numbers below n, in their order. -/
def strs (n : Nat) : Nat → List (List Nat)
  | 0 => [[]]
  | k + 1 => (strs n k).flatMap fun x => (List.range n).map fun y => x ++ [y]
theorem strs_len (n : Nat) : ∀ k, (strs n k).length = n ^ k
  | 0 => rfl
  | k + 1 => by
    have h : ∀ l : List (List Nat), (l.flatMap fun x => (List.range n).map fun y => x ++ [y]).length = l.length * n := by
      intro l
      induction l with
      | nil => simp
      | cons a l ih => rw [List.flatMap_cons, List.length_append, ih]; simp [Nat.add_mul, Nat.add_comm]
    show ((strs n k).flatMap _).length = _
    rw [h, strs_len n k, Nat.pow_succ]
end Go.Proofs.YtofkhehcnfiopaaDoor.N
namespace Go.Proofs.YtofkhehcnfiopaaDoor.N
open Go Go.RowKit Go.Proofs

theorem follows_c (A wA : Option Addr) (c wc f : Nat) (ags : List Ag) (way : List Nat) (hok : Oks ags) (hf : f < 64) (hwl : way.length ≤ 1000) (w : World) (hA : RdL Ag.cells 5 w A ags) (hW : RdL ncell 1 w wA way) : Calls Tryd.prog 36 #[.slice A ags.length c, .int .i64 (f : Int), .slice wA way.length wc] w fun e w' => e = .returned (.tuple #[.int .i64 (followV (followN ags f way) : Int), .bool (followN ags f way).isSome]) ∧ Grew w w' [] := by
  refine enter (N := 59) [(0, .slice A ags.length c), (1, .int .i64 (f : Int)), (2, .slice wA way.length wc)] Tryd.func36 rfl Tryd.ntmps36 rfl rfl ?_
  refine cod_seq ?_
  refine cod_region ?_
  refine lst_assign rfl rfl ?_
  refine lst_assign rfl rfl ?_
  refine lst_nil ?_
  refine ex_then ?_
  refine cod_seq ?_
  refine cod_seq ?_
  refine cod_region ?_
  refine lst_assign rfl rfl ?_
  refine lst_nil ?_
  refine ex_then ?_
  refine cod_block ?_
  refine cod_loop (G := Nat × Nat) (fun g => g.1 ≤ way.length ∧ g.2 < 64 ∧ followN ags f way = followN ags g.2 (way.drop g.1)) (fun g => way.length - g.1) (fun g => [(0, .slice A ags.length c), (1, .int .i64 (g.2 : Int)), (2, .slice wA way.length wc), (8, .int .i64 (g.1 : Int))]) (fun g => []) (0, f) ⟨Nat.zero_le _, hf, rfl⟩ (by repeat (first | exact Sub.nil _ | refine Sub.cons rfl ?_)) (by repeat (first | exact List.Sublist.refl _ | exact List.nil_sublist _ | refine List.Sublist.cons_cons _ ?_ | refine List.Sublist.cons _ ?_)) ?_
  rintro ⟨k, fk⟩ hk
  (try dsimp only at hk ⊢)
  refine cod_seq ?_
  refine cod_seq ?_
  refine cod_region ?_
  refine lst_move rfl rfl ?_
  refine lst_move rfl rfl ?_
  refine lst_len rfl rfl Tryd.underlying25 ?_
  refine lst_int rfl rfl rfl bin_lss ?_
  refine lst_nil ?_
  refine ex_then ?_
  refine cod_cond_dec rfl (fun hc0 => ?_) (fun hc0 => ?_)
  · skip
    have hk' : k < way.length := by omega
    obtain ⟨b, o, rfl, hb, hcell⟩ := hW (by omega)
    obtain ⟨i, hwi⟩ : ∃ i, way[k]? = some i := ⟨_, List.getElem?_eq_getElem hk'⟩
    have hst := followN_step (ags := ags) (f := fk) hwi
    refine cod_skip ?_
    refine ex_then ?_
    refine cod_seq ?_
    refine cod_block ?_
    refine cod_seq ?_
    refine cod_seq ?_
    refine cod_region ?_
    refine lst_move rfl rfl ?_
    refine lst_move rfl rfl ?_
    refine lst_index (j := k) rfl rfl rfl Tryd.underlying25 F.ti3 rfl hk' ?_
    refine lst_load_at (v := .int .i64 (i : Int)) rfl rfl F.one3 (fun a w ha => ha.old (hcell k i hwi 0 _ rfl) hb) ?_
    refine lst_int (v := .bool false) rfl rfl rfl (fun w => by rw [bin_lss, decide_eq_false (by omega)]) ?_
    refine lst_move rfl rfl ?_
    refine lst_on rfl rfl ?_
    refine lst_move rfl rfl ?_
    refine lst_on rfl rfl ?_
    refine lst_move rfl rfl ?_
    refine lst_on rfl rfl ?_
    refine lst_index (j := k) rfl rfl rfl Tryd.underlying25 F.ti3 rfl hk' ?_
    refine lst_on rfl rfl ?_
    refine lst_load_at (v := .int .i64 (i : Int)) rfl rfl F.one3 (fun a w ha => ha.old (hcell k i hwi 0 _ rfl) hb) ?_
    refine lst_on rfl rfl ?_
    refine lst_move rfl rfl ?_
    refine lst_on rfl rfl ?_
    refine lst_len rfl rfl Tryd.underlying22 ?_
    refine lst_on rfl rfl ?_
    refine lst_int rfl rfl rfl bin_geq ?_
    refine lst_pick_false rfl rfl rfl ?_
    refine lst_nil ?_
    refine ex_then ?_
    refine cod_cond_dec rfl (fun hc1 => ?_) (fun hc1 => ?_)
    · skip
      refine cod_seq ?_
      refine cod_region ?_
      refine lst_assign rfl rfl ?_
      refine lst_assign rfl rfl ?_
      refine lst_nil ?_
      refine ex_then ?_
      refine cod_ret ?_
      refine ex_then_ret ?_
      refine ex_block_ret ?_
      refine ex_then_ret ?_
      refine ex_then_ret ?_
      refine ex_block_ret ?_
      refine ex_then_ret ?_
      have e1 : followN ags f way = none := by rw [hk.2.2, hst, if_neg (by omega)]
      exact ex_ret rfl (fun a w ha => res_two rfl rfl rfl ha) (fun a w ha => ⟨by rw [e1]; rfl, ha.grown (List.nil_sublist _)⟩)
    · skip
      have hi' : i < ags.length := by omega
      obtain ⟨b', o', rfl, hb', hcell'⟩ := hA (by omega)
      obtain ⟨x, hx⟩ : ∃ x, ags[i]? = some x := ⟨_, List.getElem?_eq_getElem hi'⟩
      have hxo : x.ok := hok.2 x (List.mem_of_getElem? hx)
      have hxd : ags.getD i default = x := by rw [List.getD_eq_getElem?_getD, hx]; rfl
      rw [hxd] at hst
      have hfk := hk.2.1
      have hx1 := hxo.needs
      have hx2 := hxo.no
      have hx3 := hxo.takes
      have hx4 := hxo.leaves
      refine cod_skip ?_
      refine ex_then ?_
      refine cod_seq ?_
      refine cod_region ?_
      refine lst_move rfl rfl ?_
      refine lst_move rfl rfl ?_
      refine lst_move rfl rfl ?_
      refine lst_index (j := k) rfl rfl rfl Tryd.underlying25 F.ti3 rfl hk' ?_
      refine lst_load_at (v := .int .i64 (i : Int)) rfl rfl F.one3 (fun a w ha => ha.old (hcell k i hwi 0 _ rfl) hb) ?_
      refine lst_index (j := i) rfl rfl rfl Tryd.underlying22 F.ti24 rfl hi' ?_
      refine lst_loadN_at (l := [.int .i64 (x.needs : Int), .int .i64 (x.no : Int), .int .i64 (x.takes : Int), .int .i64 (x.leaves : Int), .int .i64 (x.cost : Int)]) rfl rfl F.agg24 F.ti24 rfl (fun a w ha j u hu => ha.old (hcell' i x hx j u hu) hb') ?_
      refine lst_alloc rfl F.ti24 ?_
      intro b9
      refine lst_store rfl rfl F.ti24 rfl ?_
      refine lst_nil ?_
      refine ex_then ?_
      refine cod_seq ?_
      refine cod_seq ?_
      refine cod_region ?_
      refine lst_cut1 14 50 (.bool (!(mayN x fk))) ?_ ?_
      · skip
        refine lst_move rfl rfl ?_
        refine lst_field_z rfl rfl F.fi24_0 F.ti3 ?_
        refine lst_load rfl rfl F.one3 ?_
        refine lst_int rfl rfl rfl (fun w => bin_and w (i64_and fk x.needs (by omega) (by omega))) ?_
        refine lst_field_z rfl rfl F.fi24_0 F.ti3 ?_
        refine lst_load rfl rfl F.one3 ?_
        refine lst_int rfl rfl rfl bin_neq ?_
        refine lst_move rfl rfl ?_
        refine lst_split (t := 44) rfl (fun hg44 => ?_) (fun hg44 => ?_)
        · skip
          refine lst_off rfl rfl rfl ?_
          refine lst_off rfl rfl rfl ?_
          refine lst_off rfl rfl rfl ?_
          refine lst_off rfl rfl rfl ?_
          refine lst_off rfl rfl rfl ?_
          refine lst_pick_true rfl rfl rfl ?_
          refine lst_nil ?_
          exact ex_cut (.cons (by rw [may_and]; simp only [ne_eq, Int.ofNat_inj] at hg44; simp [look, hg44]; try omega) (by repeat (first | exact Sub.nil _ | refine Sub.cons rfl ?_))) (by repeat (first | exact List.Sublist.refl _ | exact List.nil_sublist _ | refine List.Sublist.cons_cons _ ?_ | refine List.Sublist.cons _ ?_))
        · skip
          refine lst_on rfl rfl ?_
          refine lst_move rfl rfl ?_
          refine lst_on rfl rfl ?_
          refine lst_field_z rfl rfl F.fi24_1 F.ti3 ?_
          refine lst_on rfl rfl ?_
          refine lst_load rfl rfl F.one3 ?_
          refine lst_on rfl rfl ?_
          refine lst_int rfl rfl rfl (fun w => bin_and w (i64_and fk x.no (by omega) (by omega))) ?_
          refine lst_on rfl rfl ?_
          refine lst_int rfl rfl rfl bin_neq ?_
          refine lst_pick_false rfl rfl rfl ?_
          refine lst_nil ?_
          exact ex_cut (.cons (by rw [may_and]; simp only [ne_eq, Int.ofNat_inj] at hg44; simp [look, hg44]; try omega) (by repeat (first | exact Sub.nil _ | refine Sub.cons rfl ?_))) (by repeat (first | exact List.Sublist.refl _ | exact List.nil_sublist _ | refine List.Sublist.cons_cons _ ?_ | refine List.Sublist.cons _ ?_))
      refine lst_nil ?_
      refine ex_then ?_
      refine cod_cond_bool rfl (fun hc2 => ?_) (fun hc2 => ?_)
      · skip
        refine cod_seq ?_
        refine cod_region ?_
        refine lst_assign rfl rfl ?_
        refine lst_assign rfl rfl ?_
        refine lst_nil ?_
        refine ex_then ?_
        refine cod_ret ?_
        refine ex_then_ret ?_
        refine ex_block_ret ?_
        refine ex_then_ret ?_
        refine ex_then_ret ?_
        refine ex_block_ret ?_
        refine ex_then_ret ?_
        have hm : mayN x fk = false := by simpa using hc2
        have e1 : followN ags f way = none := by rw [hk.2.2, hst, if_neg (by rw [hm]; simp)]
        exact ex_ret rfl (fun a w ha => res_two rfl rfl rfl ha) (fun a w ha => ⟨by rw [e1]; rfl, ha.grown (List.nil_sublist _)⟩)
      · skip
        have hm : mayN x fk = true := by simpa using hc2
        rw [if_pos ⟨hi', hm⟩] at hst
        have hnn : nn fk x.takes < 64 := nn64 hfk
        refine cod_skip ?_
        refine ex_then ?_
        refine cod_region ?_
        refine lst_move rfl rfl ?_
        refine lst_field_z rfl rfl F.fi24_2 F.ti3 ?_
        refine lst_load rfl rfl F.one3 ?_
        refine lst_int rfl rfl rfl (fun w => bin_andNot w (i64_andNot fk x.takes (by omega) (by omega))) ?_
        refine lst_field_z rfl rfl F.fi24_3 F.ti3 ?_
        refine lst_load rfl rfl F.one3 ?_
        refine lst_int rfl rfl rfl (fun w => bin_or w (i64_or (nn fk x.takes) x.leaves (by omega) (by omega))) ?_
        refine lst_assign rfl rfl ?_
        refine lst_nil ?_
        refine ex_block_normal ?_
        refine ex_then ?_
        refine cod_region ?_
        refine lst_move rfl rfl ?_
        refine lst_int rfl rfl rfl (fun w => bin_add w (wrap_i64' _ (by omega) (by omega))) ?_
        refine lst_assign rfl rfl ?_
        refine lst_nil ?_
        refine ex_round (k + 1, putN x fk) ⟨by omega, putN_lt hxo hfk, by rw [hk.2.2, hst]⟩ (by (try dsimp only); omega) (by repeat (first | exact Sub.nil _ | refine Sub.cons rfl ?_)) (by repeat (first | exact List.Sublist.refl _ | exact List.nil_sublist _ | refine List.Sublist.cons_cons _ ?_ | refine List.Sublist.cons _ ?_))
  · skip
    refine cod_exit ?_
    refine ex_then_exit ?_
    refine ex_then_exit ?_
    refine ex_block_exit ?_
    refine ex_then ?_
    refine cod_seq ?_
    refine cod_region ?_
    refine lst_move rfl rfl ?_
    refine lst_assign rfl rfl ?_
    refine lst_assign rfl rfl ?_
    refine lst_nil ?_
    refine ex_then ?_
    refine cod_ret ?_
    obtain rfl : k = way.length := by omega
    have e1 : followN ags f way = some fk := by rw [hk.2.2, List.drop_length]; rfl
    exact ex_ret rfl (fun a w ha => res_two rfl rfl rfl ha) (fun a w ha => ⟨by rw [e1]; rfl, ha.grown (List.nil_sublist _)⟩)

theorem dup_nil  (w : World) : Calls Tryd.prog 27 #[.slice none 0 0] w fun e w' => ∃ A' c', e = .returned (.slice A' 0 c') ∧ Grew w w' [.row 3 1 A' 0 c' (ints [])] := by
  refine enter (N := 6) [(0, .slice none 0 0)] Tryd.func27 rfl Tryd.ntmps27 rfl rfl ?_
  refine cod_seq ?_
  refine cod_region ?_
  refine lst_assign rfl rfl ?_
  refine lst_nil ?_
  refine ex_then ?_
  refine cod_seq ?_
  refine cod_region ?_
  refine lst_lit0 rfl Tryd.underlying25 F.ti3 ?_
  intro b3
  refine lst_as_row 1 (.head _) ?_
  refine lst_move rfl rfl ?_
  refine lst_append_none rfl rfl rfl Tryd.underlying25 F.ti3 (Nat.le_refl _) ?_
  refine lst_assign rfl rfl ?_
  refine lst_nil ?_
  refine ex_then ?_
  refine cod_ret ?_
  exact ex_ret rfl (fun a w ha => res_one rfl rfl ha) (fun a w ha => ⟨_, 0, rfl, ha.grown (by repeat (first | exact List.Sublist.refl _ | exact List.nil_sublist _ | refine List.Sublist.cons_cons _ ?_ | refine List.Sublist.cons _ ?_))⟩)

theorem dup_some (p : Addr) (c : Nat) (l : List Nat) (hl : l.length ≤ 400000) (w : World) (hA : RdL ncell 1 w (some p) l) : Calls Tryd.prog 27 #[.slice (some p) l.length c] w fun e w' => ∃ A' c', e = .returned (.slice A' l.length c') ∧ Grew w w' [.row 3 1 A' l.length c' (ints l)] := by
  refine enter (N := 6) [(0, .slice (some p) l.length c)] Tryd.func27 rfl Tryd.ntmps27 rfl rfl ?_
  refine cod_seq ?_
  refine cod_region ?_
  refine lst_assign rfl rfl ?_
  refine lst_nil ?_
  refine ex_then ?_
  refine cod_seq ?_
  refine cod_region ?_
  refine lst_lit0 rfl Tryd.underlying25 F.ti3 ?_
  intro b3
  refine lst_as_row 1 (.head _) ?_
  refine lst_move rfl rfl ?_
  refine lst_append_ints rfl rfl rfl Tryd.underlying25 F.ti3 rfl (fun a w ha j u hu => (hA.later ha.below).ints_at hu) rfl (by unfold maxLen; omega) (by omega) ?_
  intro A1 c1
  refine lst_assign rfl rfl ?_
  refine lst_nil ?_
  refine ex_then ?_
  refine cod_ret ?_
  simp only [Nat.zero_add, List.nil_append]
  exact ex_ret rfl (fun a w ha => res_one rfl rfl ha) (fun a w ha => ⟨A1, c1, rfl, ha.grown (by repeat (first | exact List.Sublist.refl _ | exact List.nil_sublist _ | refine List.Sublist.cons_cons _ ?_ | refine List.Sublist.cons _ ?_))⟩)

end Go.Proofs.YtofkhehcnfiopaaDoor.N
namespace Go.Proofs.YtofkhehcnfiopaaDoor.N
open Go Go.RowKit Go.Proofs
theorem Pck.of_sub {t l : List Res} (h : t.Sublist l) : Pck t l := by
  induction h with
  | slnil => exact .nil _
  | cons x _ ih => exact .skip x ih
  | cons_cons x _ ih => exact .cons (.here _) ih
theorem Pck.pre (l R : List Res) : Pck (l ++ []) (l ++ R) := .of_sub (by rw [List.append_nil]; exact List.sublist_append_left l R)
theorem Pck.snoc2 {s : Sl} {r : Res} (h : s.res = r) (Ms : List Sl) (R : List Res) : Pck ((Ms ++ [s]).map Sl.res ++ R) (r :: (Ms.map Sl.res ++ R)) := by
  subst h; exact Pck.snoc Ms s R
theorem row_none {C : Ctx} {fr : List (Nat × Value)} {hp : List Res} {a : Act} {w : World} (ha : At C fr hp a w) {e size n c : Nat} {A : Option Addr} {xs : List Value} (hm : Res.row e size A n c xs ∈ hp) (hA : A = none) : n = 0 ∧ c = 0 := by
  subst hA
  rcases (ha.own _ hm).2 with ⟨h1, h2⟩ | ⟨g, cap, cur, h1, _⟩
  · injection h1 with _ h3 h4
    exact ⟨h2, h4⟩
  · cases h1
theorem dup_c (A : Option Addr) (c : Nat) (l : List Nat) (hl : l.length ≤ 400000) (w : World) (hn : A = none → l = [] ∧ c = 0) (hA : RdL ncell 1 w A l) :
    Calls Tryd.prog 27 #[.slice A l.length c] w fun e w' => ∃ A' c', e = .returned (.slice A' l.length c') ∧ Grew w w' [.row 3 1 A' l.length c' (ints l)] := by
  cases A with
  | none =>
    obtain ⟨rfl, rfl⟩ := hn rfl
    exact dup_nil w
  | some p => exact dup_some p c l hl w hA
theorem strs_mem {n : Nat} : ∀ {k : Nat} {x : List Nat}, x ∈ strs n k → x.length = k ∧ ∀ i ∈ x, i < n
  | 0, x, h => by
    simp [strs] at h
    subst h
    exact ⟨rfl, by simp⟩
  | k + 1, x, h => by
    unfold strs at h
    obtain ⟨y, hy, h2⟩ := List.mem_flatMap.1 h
    obtain ⟨z, hz, rfl⟩ := List.mem_map.1 h2
    obtain ⟨h3, h4⟩ := strs_mem hy
    refine ⟨by simp [h3], fun i hi => ?_⟩
    rcases List.mem_append.1 hi with h5 | h5
    · exact h4 i h5
    · simp at h5; subst h5; exact List.mem_range.1 hz
/-- A list, and one number more. -/
def extS (n : Nat) (x : List Nat) : List (List Nat) := (List.range n).map fun y => x ++ [y]
theorem strs_succ (n k : Nat) : strs n (k + 1) = (strs n k).flatMap (extS n) := rfl
theorem strs_le {n k : Nat} (hn : n ≤ 4) (hk : k ≤ 5) : (strs n k).length ≤ 1024 := by
  rw [strs_len]
  exact Nat.le_trans (Nat.pow_le_pow_left hn k) (show 4 ^ k ≤ 4 ^ 5 from Nat.pow_le_pow_right (by omega) hk)
theorem vals_get {Ls : List Sl} {x : Nat} {s : Sl} (h : Ls[x]? = some s) : (Ls.map Sl.val)[x * 1]? = some s.val := by
  rw [Nat.mul_one, List.getElem?_map, h]; rfl
end Go.Proofs.YtofkhehcnfiopaaDoor.N
namespace Go.Proofs.YtofkhehcnfiopaaDoor.N
open Go Go.RowKit Go.Proofs
theorem F.ent27 : Enters Tryd.prog 27 := enters_of Tryd.func27 rfl (by kernel_rfl)
theorem Strings_c (n k : Nat) (hn : n ≤ 4) (hk : k ≤ 5) (w : World) : Calls Tryd.prog 38 #[.int .i64 (n : Int), .int .i64 (k : Int)] w fun e w' => ∃ (Ls : List Sl) (A : Option Addr) (c : Nat), Ls.map Sl.l = strs n k ∧ e = .returned (.slice A Ls.length c) ∧ Grew w w' (.row 25 1 A Ls.length c (Ls.map Sl.val) :: Ls.map Sl.res) := by
  refine enter (N := 40) [(0, .int .i64 (n : Int)), (1, .int .i64 (k : Int))] Tryd.func38 rfl Tryd.ntmps38 rfl rfl ?_
  refine cod_seq ?_
  refine cod_region ?_
  refine lst_assign rfl rfl ?_
  refine lst_nil ?_
  refine ex_then ?_
  refine cod_seq ?_
  refine cod_region ?_
  refine lst_lit (vs := [(0, _)]) rfl rfl Tryd.underlying49 F.ti25 rfl rfl rfl ?_
  intro b10
  refine lst_as_rowN 1 1 rfl (by unfold maxLen; omega) (.head _) ?_
  refine lst_nilrow 3 1 ?_
  refine lst_assign rfl rfl ?_
  refine lst_nil ?_
  refine ex_then ?_
  refine cod_seq ?_
  refine cod_seq ?_
  refine cod_region ?_
  refine lst_assign rfl rfl ?_
  refine lst_nil ?_
  refine ex_then ?_
  refine cod_block ?_
  refine cod_loop' (G := Nat × Option Addr × Nat × List Sl) (fun g => g.1 ≤ k ∧ g.2.2.2.map Sl.l = strs n g.1) (fun g => k - g.1) (fun g => [(0, .int .i64 (n : Int)), (1, .int .i64 (k : Int)), (5, .slice g.2.1 g.2.2.2.length g.2.2.1), (6, .int .i64 (g.1 : Int))]) (fun g => .row 25 1 g.2.1 g.2.2.2.length g.2.2.1 (g.2.2.2.map Sl.val) :: (g.2.2.2.map Sl.res ++ [])) (0, some ⟨b10, 0, none⟩, 1, [⟨none, 0, []⟩]) ⟨Nat.zero_le _, rfl⟩ (by repeat (first | exact Sub.nil _ | refine Sub.cons rfl ?_)) (by (try simp only [List.map_cons, List.map_nil, List.cons_append, List.nil_append]); repeat (first | exact Pck.nil _ | exact Pck.refl _ | exact Pck.suffix _ _ | (apply Pck.cons; focus ((repeat (first | exact Rem.here _ | apply Rem.there)); done)) | refine Pck.skip _ ?_)) ?_
  rintro ⟨i, A, c, Ls⟩ hI
  dsimp only at hI ⊢
  refine cod_seq ?_
  refine cod_seq ?_
  refine cod_region ?_
  refine lst_move rfl rfl ?_
  refine lst_move rfl rfl ?_
  refine lst_int rfl rfl rfl bin_lss ?_
  refine lst_nil ?_
  refine ex_then ?_
  refine cod_cond_dec rfl (fun hc0 => ?_) (fun hc0 => ?_)
  · skip
    have hik : i < k := by omega
    have hLl : Ls.length = (strs n i).length := by rw [← hI.2, List.length_map]
    have hL1 := strs_le (n := n) (k := i) hn (by omega)
    refine cod_skip ?_
    refine ex_then ?_
    refine cod_seq ?_
    refine cod_block ?_
    refine cod_seq ?_
    refine cod_region ?_
    refine lst_assign rfl rfl ?_
    refine lst_nil ?_
    refine ex_then ?_
    refine cod_seq ?_
    refine cod_seq ?_
    refine cod_region ?_
    refine lst_assign rfl rfl ?_
    refine lst_nil ?_
    refine ex_then ?_
    refine cod_block ?_
    refine cod_nil 25 1 ?_
    refine cod_loop' (G := Nat × Option Addr × Nat × List Sl) (fun g => g.1 ≤ Ls.length ∧ g.2.2.2.map Sl.l = ((strs n i).take g.1).flatMap (extS n) ∧ g.2.2.2.length = g.1 * n) (fun g => Ls.length - g.1) (fun g => [(0, .int .i64 (n : Int)), (1, .int .i64 (k : Int)), (5, .slice A Ls.length c), (6, .int .i64 (i : Int)), (7, .slice g.2.1 g.2.2.2.length g.2.2.1), (8, .int .i64 (g.1 : Int))]) (fun g => .row 25 1 g.2.1 g.2.2.2.length g.2.2.1 (g.2.2.2.map Sl.val) :: .row 25 1 A Ls.length c (Ls.map Sl.val) :: (g.2.2.2.map Sl.res ++ (Ls.map Sl.res ++ []))) (0, none, 0, []) ⟨Nat.zero_le _, by simp, by simp⟩ (by repeat (first | exact Sub.nil _ | refine Sub.cons rfl ?_)) (by (try simp only [List.map_cons, List.map_nil, List.cons_append, List.nil_append]); repeat (first | exact Pck.nil _ | exact Pck.refl _ | exact Pck.suffix _ _ | (apply Pck.cons; focus ((repeat (first | exact Rem.here _ | apply Rem.there)); done)) | refine Pck.skip _ ?_)) ?_
    rintro ⟨x, A2, c2, Ms⟩ hM
    dsimp only at hM ⊢
    refine cod_seq ?_
    refine cod_seq ?_
    refine cod_region ?_
    refine lst_move rfl rfl ?_
    refine lst_move rfl rfl ?_
    refine lst_len rfl rfl Tryd.underlying49 ?_
    refine lst_int rfl rfl rfl bin_lss ?_
    refine lst_nil ?_
    refine ex_then ?_
    refine cod_cond_dec rfl (fun hc1 => ?_) (fun hc1 => ?_)
    · skip
      have hx' : x < Ls.length := by omega
      obtain ⟨s, hs⟩ : ∃ s, Ls[x]? = some s := ⟨_, List.getElem?_eq_getElem hx'⟩
      have hsx : (strs n i)[x]? = some s.l := by rw [← hI.2, List.getElem?_map, hs]; rfl
      have hsm : s ∈ Ls := List.mem_of_getElem? hs
      have hsl := (strs_mem (List.mem_of_getElem? hsx)).1
      refine cod_skip ?_
      refine ex_then ?_
      refine cod_seq ?_
      refine cod_block ?_
      refine cod_seq ?_
      refine cod_region ?_
      refine lst_assign rfl rfl ?_
      refine lst_nil ?_
      refine ex_then ?_
      refine cod_block ?_
      refine cod_loop' (G := Nat × Option Addr × Nat × List Sl) (fun g => g.1 ≤ n ∧ g.2.2.2.map Sl.l = ((strs n i).take x).flatMap (extS n) ++ (List.range g.1).map (fun y => s.l ++ [y]) ∧ g.2.2.2.length = x * n + g.1) (fun g => n - g.1) (fun g => [(0, .int .i64 (n : Int)), (1, .int .i64 (k : Int)), (5, .slice A Ls.length c), (6, .int .i64 (i : Int)), (7, .slice g.2.1 g.2.2.2.length g.2.2.1), (8, .int .i64 (x : Int)), (9, .int .i64 (g.1 : Int))]) (fun g => .row 25 1 g.2.1 g.2.2.2.length g.2.2.1 (g.2.2.2.map Sl.val) :: .row 25 1 A Ls.length c (Ls.map Sl.val) :: (g.2.2.2.map Sl.res ++ (Ls.map Sl.res ++ []))) (0, A2, c2, Ms) ⟨Nat.zero_le _, by rw [hM.2.1]; simp, by rw [hM.2.2]; rfl⟩ (by repeat (first | exact Sub.nil _ | refine Sub.cons rfl ?_)) (by repeat (first | exact Pck.nil _ | exact Pck.refl _ | (apply Pck.cons; focus ((repeat (first | exact Rem.here _ | apply Rem.there)); done)) | refine Pck.skip _ ?_)) ?_
      rintro ⟨y, A3, c3, Ns⟩ hN
      dsimp only at hN ⊢
      refine cod_seq ?_
      refine cod_seq ?_
      refine cod_region ?_
      refine lst_move rfl rfl ?_
      refine lst_move rfl rfl ?_
      refine lst_int rfl rfl rfl bin_lss ?_
      refine lst_nil ?_
      refine ex_then ?_
      refine cod_cond_dec rfl (fun hc2 => ?_) (fun hc2 => ?_)
      · skip
        have hxn : x * n ≤ 1024 * 4 := Nat.mul_le_mul (by omega) hn
        have hNl := hN.2.2
        refine cod_skip ?_
        refine ex_then ?_
        refine cod_seq ?_
        refine cod_block ?_
        refine cod_region ?_
        refine lst_move rfl rfl ?_
        refine lst_move rfl rfl ?_
        refine lst_move rfl rfl ?_
        refine lst_index_row (j := x) rfl rfl rfl Tryd.underlying49 F.ti25 rfl hx' rfl rfl ?_
        intro gA hgA
        refine lst_load_row (v := .slice s.A s.l.length s.c) rfl rfl F.one25 hgA (vals_get hs) ?_
        refine lst_fn (X := Option Addr × Nat) (vs := [_]) (p := fun _ => True) (val := fun y => .slice y.1 s.l.length y.2) (rs := fun y => [.row 3 1 y.1 s.l.length y.2 (ints s.l)]) rfl rfl F.ent27 (fun a w ha => by
          have hm : Res.row 3 1 s.A s.l.length s.c (ints s.l) ∈ Ls.map Sl.res := List.mem_map.2 ⟨s, hsm, rfl⟩
          exact (dup_c s.A s.c s.l (by omega) w (fun h => by obtain ⟨h1, h2⟩ := row_none ha (e := 3) (size := 1) (n := s.l.length) (c := s.c) (xs := ints s.l) (by simp [hm]) h; exact ⟨List.eq_nil_of_length_eq_zero h1, h2⟩) (row_reads ha (cells := ncell) (size := 1) (e := 3) (c := s.c) (n := s.l.length) (fun _ => rfl) (by rw [← ints_flat]; simp [hm]) rfl)).mono (fun e w' h => by obtain ⟨A', c', h1, h2⟩ := h; exact ⟨(A', c'), trivial, h1, h2⟩)) ?_
        rintro ⟨Ac, cc⟩ -
        dsimp only [List.cons_append, List.nil_append]
        refine lst_move rfl rfl ?_
        refine lst_lit (vs := [(0, _)]) rfl rfl Tryd.underlying25 F.ti3 rfl rfl rfl ?_
        intro b34
        refine lst_append rfl rfl rfl Tryd.underlying25 F.ti3 rfl rfl rfl (by unfold maxLen; omega) (by omega) ?_
        intro An cn
        refine lst_lit (vs := [(0, _)]) rfl rfl Tryd.underlying49 F.ti25 rfl rfl rfl ?_
        intro b36
        refine lst_append rfl rfl rfl Tryd.underlying49 F.ti25 rfl rfl rfl (by unfold maxLen; omega) (by omega) ?_
        intro A4 c4
        refine lst_assign rfl rfl ?_
        refine lst_nil ?_
        refine ex_block_normal ?_
        refine ex_then ?_
        refine cod_region ?_
        refine lst_move rfl rfl ?_
        refine lst_int rfl rfl rfl (fun w => bin_add w (wrap_i64' _ (by omega) (by omega))) ?_
        refine lst_assign rfl rfl ?_
        refine lst_nil ?_
        have hml : (Ns ++ [(⟨An, cn, s.l ++ [y]⟩ : Sl)]).length = Ns.length + 1 := by simp
        have hmv : (Ns ++ [(⟨An, cn, s.l ++ [y]⟩ : Sl)]).map Sl.val = Ns.map Sl.val ++ [.slice An (s.l.length + 1) cn] := by simp [Sl.val]
        have hsr : (⟨An, cn, s.l ++ [y]⟩ : Sl).res = .row 3 1 An (s.l.length + 1) cn (ints s.l ++ [.int .i64 (y : Int)]) := by simp [Sl.res, ints_snoc]
        refine ex_round' (y + 1, A4, c4, Ns ++ [(⟨An, cn, s.l ++ [y]⟩ : Sl)]) ⟨by omega, by rw [List.map_append, hN.2.1, List.range_succ]; simp, by rw [hml]; dsimp only; omega⟩ (by (try dsimp only); omega) (by dsimp only; rw [hml]; repeat (first | exact Sub.nil _ | refine Sub.cons rfl ?_)) (by dsimp only; rw [hml, hmv]; repeat (first | exact Pck.nil _ | exact Pck.refl _ | exact Pck.suffix _ _ | exact Pck.snoc2 hsr _ _ | (apply Pck.cons; focus ((repeat (first | exact Rem.here _ | apply Rem.there)); done)) | refine Pck.skip _ ?_))
      · skip
        obtain rfl : y = n := by omega
        refine cod_exit ?_
        refine ex_then_exit ?_
        refine ex_then_exit ?_
        refine ex_block_exit ?_
        refine ex_block_normal ?_
        refine ex_then ?_
        refine cod_region ?_
        refine lst_move rfl rfl ?_
        refine lst_int rfl rfl rfl (fun w => bin_add w (wrap_i64' _ (by omega) (by omega))) ?_
        refine lst_assign rfl rfl ?_
        refine lst_nil ?_
        refine ex_round' (x + 1, A3, c3, Ns) ⟨by omega, by rw [List.take_add_one, hsx, List.flatMap_append, hN.2.1]; simp [extS], by rw [hN.2.2, Nat.succ_mul]⟩ (by (try dsimp only); omega) (by (try dsimp only); repeat (first | exact Sub.nil _ | refine Sub.cons rfl ?_)) (by (try dsimp only); repeat (first | exact Pck.nil _ | exact Pck.refl _ | (apply Pck.cons; focus ((repeat (first | exact Rem.here _ | apply Rem.there)); done)) | refine Pck.skip _ ?_))
    · skip
      obtain rfl : x = Ls.length := by omega
      have hMs : Ms.map Sl.l = strs n (i + 1) := by rw [strs_succ, hM.2.1, List.take_of_length_le (by omega)]
      refine cod_exit ?_
      refine ex_then_exit ?_
      refine ex_then_exit ?_
      refine ex_block_exit ?_
      refine ex_then ?_
      refine cod_region ?_
      refine lst_move rfl rfl ?_
      refine lst_assign rfl rfl ?_
      refine lst_nil ?_
      refine ex_block_normal ?_
      refine ex_then ?_
      refine cod_region ?_
      refine lst_move rfl rfl ?_
      refine lst_int rfl rfl rfl (fun w => bin_add w (wrap_i64' _ (by omega) (by omega))) ?_
      refine lst_assign rfl rfl ?_
      refine lst_nil ?_
      refine ex_round' (i + 1, A2, c2, Ms) ⟨by omega, hMs⟩ (by (try dsimp only); omega) (by (try dsimp only); repeat (first | exact Sub.nil _ | refine Sub.cons rfl ?_)) (by (try dsimp only); repeat (first | exact Pck.nil _ | exact Pck.refl _ | exact Pck.suffix _ _ | exact Pck.pre _ _ | (apply Pck.cons; focus ((repeat (first | exact Rem.here _ | apply Rem.there)); done)) | refine Pck.skip _ ?_))
  · skip
    refine cod_exit ?_
    refine ex_then_exit ?_
    refine ex_then_exit ?_
    refine ex_block_exit ?_
    refine ex_then ?_
    refine cod_seq ?_
    refine cod_region ?_
    refine lst_move rfl rfl ?_
    refine lst_assign rfl rfl ?_
    refine lst_nil ?_
    refine ex_then ?_
    refine cod_ret ?_
    obtain rfl : i = k := by omega
    rw [List.append_nil]
    exact ex_ret rfl (fun a w ha => res_one rfl rfl ha) (fun a w ha => ⟨Ls, A, c, hI.2, rfl, ha.grown (List.Sublist.refl _)⟩)

end Go.Proofs.YtofkhehcnfiopaaDoor.N
namespace Go.Proofs.YtofkhehcnfiopaaDoor.N
open Go Go.RowKit Go.Proofs
theorem Pck.swap (l R : List Res) : Pck (R ++ l) (l ++ R) := .perm List.perm_append_comm (.refl _)
theorem agd_ok {ags : List Ag} (hok : Oks ags) {i : Nat} (hi : i < ags.length) : (ags.getD i default).ok := by
  rw [List.getD_eq_getElem?_getD, List.getElem?_eq_getElem hi]
  exact hok.2 _ (List.getElem_mem hi)
theorem followN_lt {ags : List Ag} (hok : Oks ags) : ∀ (way : List Nat) (f g : Nat), f < 64 → followN ags f way = some g → g < 64
  | [], f, g, hf, h => by
    have : f = g := Option.some.inj h
    omega
  | i :: l, f, g, hf, h => by
    unfold followN at h
    split at h
    · rename_i hc
      exact followN_lt hok l _ _ (putN_lt (agd_ok hok hc.1) hf) h
    · cases h
theorem followV_lt {ags : List Ag} (hok : Oks ags) {way : List Nat} {f : Nat} (hf : f < 64) : followV (followN ags f way) < 64 := by
  cases h : followN ags f way with
  | none => show 0 < 64; omega
  | some g => exact followN_lt hok way f g hf h
theorem run_two {ags : List Ag} : ∀ (v : List Nat) (a b c : Nat), run (stepT ags (usedAll ags.length) 2) (a, b, c) v = (followN ags a v).bind fun x => (followN ags b v).map fun y => (x, y, c)
  | [], a, b, c => rfl
  | i :: l, a, b, c => by
    show (stepT ags (usedAll ags.length) 2 (a, b, c) i).bind (fun t => run (stepT ags (usedAll ags.length) 2) t l) = _
    have hm : mayT (ags.getD i default) (a, b, c) 2 = (mayN (ags.getD i default) a && mayN (ags.getD i default) b) := by
      simp [mayT, List.range_succ, tget]
    unfold stepT followN
    rw [hm]
    by_cases hi : i < ags.length
    · have hu : (usedAll ags.length).testBit i = true := by rw [usedAll_bit]; simpa using hi
      cases h1 : mayN (ags.getD i default) a <;> cases h2 : mayN (ags.getD i default) b <;> simp [hi, hu]
      · exact run_two l _ _ _
    · simp [hi]
/-- A list of agents that clears both melts. -/
def clears (ags : List Ag) (a b p : Nat) (v : List Nat) : Bool :=
  (followN ags a v).isSome && (followN ags b v).isSome && decide (nn (followV (followN ags a v)) p = 0) && decide (nn (followV (followN ags b v)) p = 0)
theorem clears_run {ags : List Ag} {a b p : Nat} {v : List Nat} : clears ags a b p v = true ↔ ∃ t, run (stepT ags (usedAll ags.length) 2) (a, b, 0) v = some t ∧ clearT p t 2 = true := by
  rw [run_two]
  unfold clears
  have hc : ∀ x y : Nat, clearT p (x, y, 0) 2 = (decide (nn x p = 0) && decide (nn y p = 0)) := by
    intro x y
    simp [clearT, List.range_succ, tget]
  cases h1 : followN ags a v with
  | none => simp
  | some x =>
    cases h2 : followN ags b v with
    | none => simp
    | some y =>
      simp [hc, followV]
      try exact ⟨fun h => ⟨of_decide_eq_true h.1, of_decide_eq_true h.2⟩, fun h => ⟨decide_eq_true h.1, decide_eq_true h.2⟩⟩
/-! Lists in their order. -/
theorem strs_all {n : Nat} : ∀ {k : Nat} {v : List Nat}, Wd n v → v.length = k → v ∈ strs n k
  | 0, v, _, h => by
    obtain rfl : v = [] := List.eq_nil_of_length_eq_zero h
    simp [strs]
  | k + 1, v, hv, h => by
    rcases snoc_cases v with rfl | ⟨u, i, rfl⟩
    · simp at h
    · obtain ⟨h1, h2⟩ := Wd.snoc.1 hv
      unfold strs
      exact List.mem_flatMap.2 ⟨u, strs_all h1 (by simpa using h), List.mem_map.2 ⟨i, List.mem_range.2 h2, rfl⟩⟩
theorem strs_sorted (n : Nat) : ∀ k, (strs n k).Pairwise (fun u v => code n u < code n v)
  | 0 => by simp [strs]
  | k + 1 => by
    unfold strs
    rw [List.pairwise_flatMap]
    refine ⟨fun x _ => ?_, ?_⟩
    · rw [List.pairwise_map]
      refine List.Pairwise.imp ?_ List.pairwise_lt_range
      intro i j hij
      rw [code_snoc, code_snoc]
      omega
    · refine List.Pairwise.imp ?_ (strs_sorted n k)
      intro u v huv x hx y hy
      obtain ⟨i, hi, rfl⟩ := List.mem_map.1 hx
      obtain ⟨j, _, rfl⟩ := List.mem_map.1 hy
      rw [code_snoc, code_snoc]
      exact code_snoc_lt huv (List.mem_range.1 hi)
theorem strs_le_code {n k i j : Nat} {u v : List Nat} (hu : (strs n k)[i]? = some u) (hv : (strs n k)[j]? = some v) (hij : i ≤ j) : code n u ≤ code n v := by
  rcases Nat.lt_or_ge i j with h | h
  · obtain ⟨h1, e1⟩ := List.getElem?_eq_some_iff.1 hu
    obtain ⟨h2, e2⟩ := List.getElem?_eq_some_iff.1 hv
    have := List.pairwise_iff_getElem.1 (strs_sorted n k) i j h1 h2 h
    rw [e1, e2] at this
    omega
  · obtain rfl : i = j := by omega
    rw [hu] at hv
    cases hv
    exact Nat.le_refl _
/-- The first list of the enumeration that does it is the first word. -/
theorem first_of_strs {ags : List Ag} {a b p k i : Nat} {v : List Nat} (hk : k ≤ 5) (hv : (strs ags.length k)[i]? = some v) (hc : clears ags a b p v = true) (h0 : ∀ u, Wd ags.length u → u.length < k → clears ags a b p u = false)
    (h1 : ∀ j u, j < i → (strs ags.length k)[j]? = some u → clears ags a b p u = false) : IsFirst (stepT ags (usedAll ags.length) 2) ags.length 5 (a, b, 0) (fun t => clearT p t 2) v := by
  have hvl := (strs_mem (List.mem_of_getElem? hv)).1
  have hvw : Wd ags.length v := (strs_mem (List.mem_of_getElem? hv)).2
  refine ⟨clears_run.1 hc, .inr (by omega), fun u t hr hg _ => ?_⟩
  have hcu : clears ags a b p u = true := clears_run.2 ⟨t, hr, hg⟩
  have huw : Wd ags.length u := run_wd _ stepT_none u _ t hr
  rcases Nat.lt_trichotomy u.length k with hl | hl | hl
  · rw [h0 u huw hl] at hcu; cases hcu
  · obtain ⟨j, hj⟩ := List.getElem?_of_mem (strs_all huw hl)
    rcases Nat.lt_or_ge j i with h2 | h2
    · rw [h1 j u h2 hj] at hcu; cases hcu
    · exact strs_le_code hv hj h2
  · exact Nat.le_of_lt (code_lt_of_len ags.length u.length u v rfl (by omega) hvw)
end Go.Proofs.YtofkhehcnfiopaaDoor.N
namespace Go.Proofs.YtofkhehcnfiopaaDoor.N
open Go Go.RowKit Go.Proofs
theorem F.ent21 : Enters Tryd.prog 21 := enters_of Tryd.func21 rfl (by kernel_rfl)
theorem F.ent22 : Enters Tryd.prog 22 := enters_of Tryd.func22 rfl (by kernel_rfl)
theorem F.ent26 : Enters Tryd.prog 26 := enters_of Tryd.func26 rfl (by kernel_rfl)
theorem F.ent34 : Enters Tryd.prog 34 := enters_of Tryd.func34 rfl (by kernel_rfl)
theorem F.ent36 : Enters Tryd.prog 36 := enters_of Tryd.func36 rfl (by kernel_rfl)
theorem F.ent37 : Enters Tryd.prog 37 := enters_of Tryd.func37 rfl (by kernel_rfl)
theorem F.ent38 : Enters Tryd.prog 38 := enters_of Tryd.func38 rfl (by kernel_rfl)
theorem F.pl68 : Places Tryd.prog 68 [(0, 1), (1, 1), (2, 1)] := .inl ⟨_, Tryd.underlying68, by kernel_rfl⟩
theorem F.ti68 : TI Tryd.prog 68 (.agg [.slice none 0 0, .int .i64 0, .int .u64 0].toArray) 3 40 := TI.of (by kernel_rfl)
theorem NewHat_c (nA : Option Addr) (n nc : Nat) (w : World) : Calls Tryd.prog 22 #[.slice nA n nc] w fun e w' => ∃ b, e = .returned (.pointer (some ⟨b, 0, none⟩)) ∧ Grew w w' [.blk b (hatO nA n nc 0 11400714819323198485)] := by
  refine enter (N := 6) [(0, .slice nA n nc)] Tryd.func22 rfl Tryd.ntmps22 rfl rfl ?_
  refine cod_seq ?_
  refine cod_region ?_
  refine lst_assign rfl rfl ?_
  refine lst_nil ?_
  refine ex_then ?_
  refine cod_seq ?_
  refine cod_region ?_
  refine lst_move rfl rfl ?_
  refine lst_struct (vs := [(0, _), (2, _)]) (l' := [_, _, _]) rfl rfl F.ti68 F.pl68 (.cons rfl rfl (.cons rfl rfl (.nil _))) rfl ?_
  refine lst_box rfl rfl ?_
  intro b5
  refine lst_assign rfl rfl ?_
  refine lst_nil ?_
  refine ex_then ?_
  refine cod_ret ?_
  exact ex_ret rfl (fun a w ha => res_one rfl rfl ha) (fun a w ha => ⟨b5, rfl, ha.grown (by repeat (first | exact List.Sublist.refl _ | exact List.nil_sublist _ | refine List.Sublist.cons_cons _ ?_ | refine List.Sublist.cons _ ?_))⟩)

theorem FiningBoth_c (nA : Option Addr) (nc : Nat) (nums : List Int) (w : World) (hN : RdL icell 1 w nA nums) : Calls Tryd.prog 5 #[.slice nA nums.length nc] w fun e w' => e = .returned (.bool true) ∧ Grew w w' [] := by
  refine enter (N := 109) [(0, .slice nA nums.length nc)] Tryd.func5 rfl Tryd.ntmps5 rfl rfl ?_
  refine cod_seq ?_
  refine cod_region ?_
  refine lst_assign rfl rfl ?_
  refine lst_nil ?_
  refine ex_then ?_
  refine cod_seq ?_
  refine cod_region ?_
  refine lst_move rfl rfl ?_
  refine lst_fn (X := Nat) (vs := [_]) (p := fun _ => True) (val := fun b => .pointer (some ⟨b, 0, none⟩)) (rs := fun b => [.blk b (hatO nA nums.length nc 0 11400714819323198485)]) rfl rfl F.ent22 (fun a w ha => (NewHat_c nA nums.length nc w).mono (fun e w' h => by obtain ⟨b, h1, h2⟩ := h; exact ⟨b, trivial, h1, h2⟩)) ?_
  intro hb _
  dsimp only [List.cons_append, List.nil_append]
  refine lst_assign rfl rfl ?_
  refine lst_nil ?_
  refine ex_then ?_
  refine cod_seq ?_
  refine cod_region ?_
  refine lst_move rfl rfl ?_
  refine lst_call (X := Nat × Nat × List Ag × Option Addr × Nat) (first := []) (cap := []) (vs := [_, _, _]) (p := fun y => y.1 ≤ 200 ∧ y.2.1 < 18446744073709551616 ∧ y.2.2.1.length ≤ 3 ∧ ∀ x ∈ y.2.2.1, x.ok) (val := fun y => .slice y.2.2.2.1 y.2.2.1.length y.2.2.2.2) (rs := fun y => .row 24 5 y.2.2.2.1 y.2.2.1.length y.2.2.2.2 (y.2.2.1.flatMap Ag.cells) :: .blk hb (hatO nA nums.length nc y.1 y.2.1) :: []) rfl rfl rfl F.ent34 (fun a w ha => (AgentsOf_c (C := ⟨Tryd.prog, _, _, _, _⟩) (T := []) (tk := 0) (many := 3) (few := 3) rfl rfl hN (by omega) (by omega) (by omega) (by omega) (by omega) ha).mono (fun e w' h => by obtain ⟨t', s', l, A', c', h1, h2, h3, h4, h5, h6⟩ := h; exact ⟨(t', s', l, A', c'), ⟨by omega, h2, h3, h4⟩, h5, h6⟩)) ?_
  rintro ⟨t1, s1, ags, aA, ac⟩ ⟨ht1, hs1, hagl, hago⟩
  dsimp only at ht1 hs1 hagl hago ⊢
  have hok : Oks ags := ⟨by omega, hago⟩
  refine lst_move rfl rfl ?_
  refine lst_call_pul (X := Nat × Nat) (vs := [_, _]) hb (fun y => hatO nA nums.length nc (t1 + 3 + 3) (y.1)) (fun y => y.1 < 18446744073709551616 ∧ y.2 < 64) (fun y => .int .i64 (y.2 : Int)) rfl rfl F.ent26 (fun a w ha => (PassOf_c (C := ⟨Tryd.prog, _, _, _, _⟩) rfl rfl hN (tk := t1) (st := s1) (few := 3) (by omega) hs1 (by omega) ha).mono (fun e w' h => by obtain ⟨s', x, h1, h2, h3, h4⟩ := h; exact ⟨(s', x), ⟨h1, h2⟩, h3, h4⟩)) ?_
  rintro ⟨s2, p⟩ ⟨hs2, hp⟩
  dsimp only at hs2 hp ⊢
  refine lst_assign rfl rfl ?_
  refine lst_assign rfl rfl ?_
  refine lst_nil ?_
  refine ex_then ?_
  refine cod_seq ?_
  refine cod_region ?_
  refine lst_move rfl rfl ?_
  refine lst_call_pul (X := Nat × Nat) (vs := [_, _]) hb (fun y => hatO nA nums.length nc (t1 + 3 + 3 + 1) (y.1)) (fun y => y.1 < 18446744073709551616 ∧ y.2 ≤ (7 : Int).toNat) (fun y => .int .i64 (y.2 : Int)) rfl rfl F.ent25 (fun a w ha => (To_c (C := ⟨Tryd.prog, _, _, _, _⟩) rfl rfl hN (tk := t1 + 3 + 3) (st := s2) (n := 7) (by omega) hs2 (by omega) ha).mono (fun e w' h => by obtain ⟨s', x, h1, h2, h3, h4⟩ := h; exact ⟨(s', x), ⟨h1, h2⟩, h3, h4⟩)) ?_
  rintro ⟨s3, m1⟩ ⟨hs3, hm1⟩
  dsimp only at hs3 hm1 ⊢
  have hlm1 : m1 ≤ 7 := by omega
  refine lst_move rfl rfl ?_
  refine lst_call_pul (X := Nat × Nat) (vs := [_, _]) hb (fun y => hatO nA nums.length nc (t1 + 3 + 3 + 1 + 1) (y.1)) (fun y => y.1 < 18446744073709551616 ∧ y.2 ≤ (7 : Int).toNat) (fun y => .int .i64 (y.2 : Int)) rfl rfl F.ent25 (fun a w ha => (To_c (C := ⟨Tryd.prog, _, _, _, _⟩) rfl rfl hN (tk := t1 + 3 + 3 + 1) (st := s3) (n := 7) (by omega) hs3 (by omega) ha).mono (fun e w' h => by obtain ⟨s', x, h1, h2, h3, h4⟩ := h; exact ⟨(s', x), ⟨h1, h2⟩, h3, h4⟩)) ?_
  rintro ⟨s4, m2⟩ ⟨hs4, hm2⟩
  dsimp only at hs4 hm2 ⊢
  have hlm2 : m2 ≤ 7 := by omega
  refine lst_lit (vs := [(0, _), (1, _)]) rfl rfl Tryd.underlying25 F.ti3 rfl rfl rfl ?_
  intro b26
  refine lst_assign rfl rfl ?_
  refine lst_nil ?_
  refine ex_then ?_
  refine cod_seq ?_
  refine cod_region ?_
  refine lst_move rfl rfl ?_
  refine lst_move rfl rfl ?_
  refine lst_move rfl rfl ?_
  refine lst_fn (X := Option Wk) (vs := [_, _, _]) (p := FoundO ags (usedAll ags.length) 2 5 (m1, m2, 0) (fun t => clearT p t 2)) (val := fun o => .tuple #[.slice (wayO o).A (wayO o).how.length (wayO o).c, .int .i64 (if o.isSome then 0 else 11)]) (rs := fun o => [.row 3 1 (wayO o).A (wayO o).how.length (wayO o).c (ints (wayO o).how)]) rfl rfl F.ent28 (fun a w ha => by
    exact (Both_ok aA ac ags hok (some ⟨b26, 0, none⟩) 2 [m1, m2] p (show 1 ≤ 2 by omega) (show 2 ≤ 3 by omega) (by intro m hm; simp at hm; omega) hp w (row_reads ha (cells := Ag.cells) (size := 5) (e := 24) (c := ac) (n := ags.length) (fun _ => rfl) (InR.mem (A := aA)) rfl) (blk_reads ha (cells := ncell) (size := 1) (b := b26) (l := [m1, m2]) (fun _ => rfl) rfl)).mono (fun e w' h => by obtain ⟨o, h1, h2, h3⟩ := h; exact ⟨o, h1, h2, h3⟩)) ?_
  intro o hfo
  dsimp only [List.cons_append, List.nil_append]
  refine lst_move rfl rfl ?_
  refine lst_extract rfl rfl rfl ?_
  refine lst_extract rfl rfl rfl ?_
  refine lst_assign rfl rfl ?_
  refine lst_assign rfl rfl ?_
  refine lst_nil ?_
  refine ex_then ?_
  refine cod_seq ?_
  refine cod_seq ?_
  refine cod_region ?_
  refine lst_assign rfl rfl ?_
  refine lst_nil ?_
  refine ex_then ?_
  refine cod_block ?_
  refine cod_loop' (G := Nat) (fun g => g ≤ 6 ∧ ∀ u, Wd ags.length u → u.length < g → clears ags m1 m2 p u = false) (fun g => 6 - g) (fun g => [(4, .slice aA ags.length ac), (5, .int .i64 (p : Int)), (6, .slice (some ⟨b26, 0, none⟩) 2 2), (7, .slice (wayO o).A (wayO o).how.length (wayO o).c), (8, .int .i64 (if o.isSome then 0 else 11)), (9, .int .i64 (g : Int))]) (fun g => .row 3 1 (wayO o).A (wayO o).how.length (wayO o).c (ints (wayO o).how) :: .blk b26 (.cells [.int .i64 (m1 : Int), .int .i64 (m2 : Int)].toArray 3 (0, 0)) :: .row 24 5 aA ags.length ac (ags.flatMap Ag.cells) :: []) (0) ⟨Nat.zero_le _, fun u _ h => absurd h (by omega)⟩ (by repeat (first | exact Sub.nil _ | refine Sub.cons rfl ?_)) (by repeat (first | exact Pck.nil _ | exact Pck.refl _ | (apply Pck.cons; focus ((repeat (first | exact Rem.here _ | apply Rem.there)); done)) | refine Pck.skip _ ?_)) ?_
  rintro k ⟨hk6, hK⟩
  try dsimp only
  refine cod_seq ?_
  refine cod_seq ?_
  refine cod_region ?_
  refine lst_move rfl rfl ?_
  refine lst_int rfl rfl rfl bin_leq ?_
  refine lst_nil ?_
  refine ex_then ?_
  refine cod_cond_dec rfl (fun hc0 => ?_) (fun hc0 => ?_)
  · skip
    have hk5 : k ≤ 5 := by omega
    refine cod_skip ?_
    refine ex_then ?_
    refine cod_seq ?_
    refine cod_block ?_
    refine cod_seq ?_
    refine cod_region ?_
    refine lst_move rfl rfl ?_
    refine lst_len rfl rfl Tryd.underlying22 ?_
    refine lst_move rfl rfl ?_
    refine lst_call (X := List Sl × Option Addr × Nat) (first := []) (cap := []) (vs := [_, _]) (p := fun y => y.1.map Sl.l = strs ags.length k) (val := fun y => .slice y.2.1 y.1.length y.2.2) (rs := fun y => .row 25 1 y.2.1 y.1.length y.2.2 (y.1.map Sl.val) :: .row 3 1 (wayO o).A (wayO o).how.length (wayO o).c (ints (wayO o).how) :: .blk b26 (.cells [.int .i64 (m1 : Int), .int .i64 (m2 : Int)].toArray 3 (0, 0)) :: .row 24 5 aA ags.length ac (ags.flatMap Ag.cells) :: (y.1.map Sl.res ++ [])) rfl rfl rfl F.ent38 (fun a w ha => by
      exact (Strings_c ags.length k (by omega) hk5 w).mono (fun e w' h => by obtain ⟨Ls, A', c', h1, h2, h3⟩ := h; refine ⟨(Ls, A', c'), h1, h2, (ha.more h3).pck (Pck.cons (.here _) ?_)⟩; rw [List.append_nil]; exact Pck.swap (Ls.map Sl.res) [.row 3 1 (wayO o).A (wayO o).how.length (wayO o).c (ints (wayO o).how), .blk b26 (.cells [.int .i64 (m1 : Int), .int .i64 (m2 : Int)].toArray 3 (0, 0)), .row 24 5 aA ags.length ac (ags.flatMap Ag.cells)])) ?_
    rintro ⟨Ls, lA, lc⟩ hLs
    dsimp only at hLs ⊢
    refine lst_assign rfl rfl ?_
    refine lst_nil ?_
    refine ex_then ?_
    refine cod_seq ?_
    refine cod_region ?_
    refine lst_assign rfl rfl ?_
    refine lst_nil ?_
    refine ex_then ?_
    refine cod_block ?_
    refine cod_loop' (G := Nat) (fun g => g ≤ Ls.length ∧ ∀ j u, j < g → (strs ags.length k)[j]? = some u → clears ags m1 m2 p u = false) (fun g => Ls.length - g) (fun g => [(4, .slice aA ags.length ac), (5, .int .i64 (p : Int)), (6, .slice (some ⟨b26, 0, none⟩) 2 2), (7, .slice (wayO o).A (wayO o).how.length (wayO o).c), (8, .int .i64 (if o.isSome then 0 else 11)), (9, .int .i64 (k : Int)), (10, .slice lA Ls.length lc), (11, .int .i64 (g : Int))]) (fun g => .row 25 1 lA Ls.length lc (Ls.map Sl.val) :: .row 3 1 (wayO o).A (wayO o).how.length (wayO o).c (ints (wayO o).how) :: .blk b26 (.cells [.int .i64 (m1 : Int), .int .i64 (m2 : Int)].toArray 3 (0, 0)) :: .row 24 5 aA ags.length ac (ags.flatMap Ag.cells) :: (Ls.map Sl.res ++ [])) (0) ⟨Nat.zero_le _, fun j u h => absurd h (by omega)⟩ (by repeat (first | exact Sub.nil _ | refine Sub.cons rfl ?_)) (by repeat (first | exact Pck.nil _ | exact Pck.refl _ | (apply Pck.cons; focus ((repeat (first | exact Rem.here _ | apply Rem.there)); done)) | refine Pck.skip _ ?_)) ?_
    rintro i ⟨hil, hI⟩
    try dsimp only
    refine cod_seq ?_
    refine cod_seq ?_
    refine cod_region ?_
    refine lst_move rfl rfl ?_
    refine lst_move rfl rfl ?_
    refine lst_len rfl rfl Tryd.underlying49 ?_
    refine lst_int rfl rfl rfl bin_lss ?_
    refine lst_nil ?_
    refine ex_then ?_
    refine cod_cond_dec rfl (fun hc1 => ?_) (fun hc1 => ?_)
    · skip
      have hi' : i < Ls.length := by omega
      refine cod_know (φ := ∃ g, lA = some ⟨g, 0, none⟩) (fun a w ha => row_some (ha.own _ (InR.mem (A := lA))) (by omega)) (fun hgL => ?_)
      obtain ⟨gL, rfl⟩ := hgL
      obtain ⟨s, hs⟩ : ∃ s, Ls[i]? = some s := ⟨_, List.getElem?_eq_getElem hi'⟩
      have hsx : (strs ags.length k)[i]? = some s.l := by rw [← hLs, List.getElem?_map, hs]; rfl
      have hsm : s ∈ Ls := List.mem_of_getElem? hs
      have hsl := (strs_mem (List.mem_of_getElem? hsx)).1
      have hv1 := followV_lt hok (way := s.l) (f := m1) (by omega)
      have hv2 := followV_lt hok (way := s.l) (f := m2) (by omega)
      refine cod_skip ?_
      refine ex_then ?_
      refine cod_seq ?_
      refine cod_block ?_
      refine cod_seq ?_
      refine any_begin [] F.follows 14 rfl [false, false, false, false, false, false, false, false, false, false, false, false, false, false] rfl ?_
      refine any_take (listed' := [true, false, false, false, false, false, false, false, false, false, false, false, false, false].toArray) 0 rfl rfl rfl (by kernel_rfl) (by kernel_rfl) (by kernel_rfl) (by repeat (first | exact List.Sublist.refl _ | exact List.nil_sublist _ | refine List.Sublist.cons_cons _ ?_ | refine List.Sublist.cons _ ?_)) (yld_move rfl) rfl ?_
      refine any_take (listed' := [true, true, false, false, false, false, false, false, false, false, false, false, false, false].toArray) 1 rfl rfl rfl (by kernel_rfl) (by kernel_rfl) (by kernel_rfl) (by repeat (first | exact List.Sublist.refl _ | exact List.nil_sublist _ | refine List.Sublist.cons_cons _ ?_ | refine List.Sublist.cons _ ?_)) (yld_move rfl) rfl ?_
      refine any_take (listed' := [true, true, true, false, false, false, false, false, false, false, false, false, false, false].toArray) 2 rfl rfl rfl (by kernel_rfl) (by kernel_rfl) (by kernel_rfl) (by repeat (first | exact List.Sublist.refl _ | exact List.nil_sublist _ | refine List.Sublist.cons_cons _ ?_ | refine List.Sublist.cons _ ?_)) (yld_index (j := 0) rfl rfl Tryd.underlying25 F.ti3 rfl (by omega)) rfl ?_
      refine any_take (listed' := [true, true, true, true, false, false, false, false, false, false, false, false, false, false].toArray) 3 rfl rfl rfl (by kernel_rfl) (by kernel_rfl) (by kernel_rfl) (by repeat (first | exact List.Sublist.refl _ | exact List.nil_sublist _ | refine List.Sublist.cons_cons _ ?_ | refine List.Sublist.cons _ ?_)) (yld_load_at (v := .int .i64 (m1 : Int)) rfl F.one3 (fun a w ha => cell_of_blk (ha.mem_blk (InB.mem (b := b26))) rfl)) rfl ?_
      refine any_take (listed' := [true, true, true, true, true, false, false, false, false, false, false, false, false, false].toArray) 4 rfl rfl rfl (by kernel_rfl) (by kernel_rfl) (by kernel_rfl) (by repeat (first | exact List.Sublist.refl _ | exact List.nil_sublist _ | refine List.Sublist.cons_cons _ ?_ | refine List.Sublist.cons _ ?_)) (yld_move rfl) rfl ?_
      refine any_take (listed' := [true, true, true, true, true, true, false, false, false, false, false, false, false, false].toArray) 5 rfl rfl rfl (by kernel_rfl) (by kernel_rfl) (by kernel_rfl) (by repeat (first | exact List.Sublist.refl _ | exact List.nil_sublist _ | refine List.Sublist.cons_cons _ ?_ | refine List.Sublist.cons _ ?_)) (yld_move rfl) rfl ?_
      refine any_take (listed' := [true, true, true, true, true, true, true, false, false, false, false, false, false, false].toArray) 6 rfl rfl rfl (by kernel_rfl) (by kernel_rfl) (by kernel_rfl) (by repeat (first | exact List.Sublist.refl _ | exact List.nil_sublist _ | refine List.Sublist.cons_cons _ ?_ | refine List.Sublist.cons _ ?_)) (yld_index (j := i) rfl rfl Tryd.underlying49 F.ti25 rfl hi') rfl ?_
      refine any_take (listed' := [true, true, true, true, true, true, true, true, false, false, false, false, false, false].toArray) 7 rfl rfl rfl (by kernel_rfl) (by kernel_rfl) (by kernel_rfl) (by repeat (first | exact List.Sublist.refl _ | exact List.nil_sublist _ | refine List.Sublist.cons_cons _ ?_ | refine List.Sublist.cons _ ?_)) (yld_load_at (v := .slice s.A s.l.length s.c) rfl F.one25 (fun a w ha => row_cell ha (InR.mem (A := some ⟨gL, 0, none⟩)) rfl (by rw [Nat.zero_add]; exact vals_get hs))) rfl ?_
      refine any_one (listed' := [true, true, true, true, true, true, true, true, true, false, false, false, false, false].toArray) 8 (by kernel_rfl) rfl rfl ?_
      refine lst_fn0 (vs := [_, _, _]) rfl rfl F.ent36 (fun a w ha => follows_c aA s.A ac s.c m1 ags s.l hok (by omega) (by omega) w (row_reads ha (cells := Ag.cells) (size := 5) (e := 24) (c := ac) (n := ags.length) (fun _ => rfl) (InR.mem (A := aA)) rfl) (row_reads ha (cells := ncell) (size := 1) (e := 3) (c := s.c) (n := s.l.length) (fun _ => rfl) (by have hm : Res.row 3 1 s.A s.l.length s.c (ints s.l) ∈ Ls.map Sl.res := List.mem_map.2 ⟨s, hsm, rfl⟩; rw [← ints_flat]; simp [hm]) rfl)) ?_
      refine lst_nil ?_
      refine any_next (by repeat (first | exact List.Sublist.refl _ | exact List.nil_sublist _ | refine List.Sublist.cons_cons _ ?_ | refine List.Sublist.cons _ ?_)) ?_
      refine any_take (listed' := [true, true, true, true, true, true, true, true, true, true, false, false, false, false].toArray) 9 rfl rfl rfl (by kernel_rfl) (by kernel_rfl) (by kernel_rfl) (by repeat (first | exact List.Sublist.refl _ | exact List.nil_sublist _ | refine List.Sublist.cons_cons _ ?_ | refine List.Sublist.cons _ ?_)) (yld_move rfl) rfl ?_
      refine any_take (listed' := [true, true, true, true, true, true, true, true, true, true, true, false, false, false].toArray) 10 rfl rfl rfl (by kernel_rfl) (by kernel_rfl) (by kernel_rfl) (by repeat (first | exact List.Sublist.refl _ | exact List.nil_sublist _ | refine List.Sublist.cons_cons _ ?_ | refine List.Sublist.cons _ ?_)) (yld_extract rfl rfl) rfl ?_
      refine any_take (listed' := [true, true, true, true, true, true, true, true, true, true, true, true, false, false].toArray) 11 rfl rfl rfl (by kernel_rfl) (by kernel_rfl) (by kernel_rfl) (by repeat (first | exact List.Sublist.refl _ | exact List.nil_sublist _ | refine List.Sublist.cons_cons _ ?_ | refine List.Sublist.cons _ ?_)) (yld_extract rfl rfl) rfl ?_
      refine any_take (listed' := [true, true, true, true, true, true, true, true, true, true, true, true, true, false].toArray) 12 rfl rfl rfl (by kernel_rfl) (by kernel_rfl) (by kernel_rfl) (by repeat (first | exact List.Sublist.refl _ | exact List.nil_sublist _ | refine List.Sublist.cons_cons _ ?_ | refine List.Sublist.cons _ ?_)) (yld_assign rfl) rfl ?_
      refine any_take (listed' := [true, true, true, true, true, true, true, true, true, true, true, true, true, true].toArray) 13 rfl rfl rfl (by kernel_rfl) (by kernel_rfl) (by kernel_rfl) (by repeat (first | exact List.Sublist.refl _ | exact List.nil_sublist _ | refine List.Sublist.cons_cons _ ?_ | refine List.Sublist.cons _ ?_)) (yld_assign rfl) rfl ?_
      refine any_done rfl (by kernel_rfl) ?_
      refine ex_then ?_
      refine cod_seq ?_
      refine any_begin [] F.follows 14 rfl [false, false, false, false, false, false, false, false, false, false, false, false, false, false] rfl ?_
      refine any_take (listed' := [true, false, false, false, false, false, false, false, false, false, false, false, false, false].toArray) 0 rfl rfl rfl (by kernel_rfl) (by kernel_rfl) (by kernel_rfl) (by repeat (first | exact List.Sublist.refl _ | exact List.nil_sublist _ | refine List.Sublist.cons_cons _ ?_ | refine List.Sublist.cons _ ?_)) (yld_move rfl) rfl ?_
      refine any_take (listed' := [true, true, false, false, false, false, false, false, false, false, false, false, false, false].toArray) 1 rfl rfl rfl (by kernel_rfl) (by kernel_rfl) (by kernel_rfl) (by repeat (first | exact List.Sublist.refl _ | exact List.nil_sublist _ | refine List.Sublist.cons_cons _ ?_ | refine List.Sublist.cons _ ?_)) (yld_move rfl) rfl ?_
      refine any_take (listed' := [true, true, true, false, false, false, false, false, false, false, false, false, false, false].toArray) 2 rfl rfl rfl (by kernel_rfl) (by kernel_rfl) (by kernel_rfl) (by repeat (first | exact List.Sublist.refl _ | exact List.nil_sublist _ | refine List.Sublist.cons_cons _ ?_ | refine List.Sublist.cons _ ?_)) (yld_index (j := 1) rfl rfl Tryd.underlying25 F.ti3 rfl (by omega)) rfl ?_
      refine any_take (listed' := [true, true, true, true, false, false, false, false, false, false, false, false, false, false].toArray) 3 rfl rfl rfl (by kernel_rfl) (by kernel_rfl) (by kernel_rfl) (by repeat (first | exact List.Sublist.refl _ | exact List.nil_sublist _ | refine List.Sublist.cons_cons _ ?_ | refine List.Sublist.cons _ ?_)) (yld_load_at (v := .int .i64 (m2 : Int)) rfl F.one3 (fun a w ha => cell_of_blk (ha.mem_blk (InB.mem (b := b26))) rfl)) rfl ?_
      refine any_take (listed' := [true, true, true, true, true, false, false, false, false, false, false, false, false, false].toArray) 4 rfl rfl rfl (by kernel_rfl) (by kernel_rfl) (by kernel_rfl) (by repeat (first | exact List.Sublist.refl _ | exact List.nil_sublist _ | refine List.Sublist.cons_cons _ ?_ | refine List.Sublist.cons _ ?_)) (yld_move rfl) rfl ?_
      refine any_take (listed' := [true, true, true, true, true, true, false, false, false, false, false, false, false, false].toArray) 5 rfl rfl rfl (by kernel_rfl) (by kernel_rfl) (by kernel_rfl) (by repeat (first | exact List.Sublist.refl _ | exact List.nil_sublist _ | refine List.Sublist.cons_cons _ ?_ | refine List.Sublist.cons _ ?_)) (yld_move rfl) rfl ?_
      refine any_take (listed' := [true, true, true, true, true, true, true, false, false, false, false, false, false, false].toArray) 6 rfl rfl rfl (by kernel_rfl) (by kernel_rfl) (by kernel_rfl) (by repeat (first | exact List.Sublist.refl _ | exact List.nil_sublist _ | refine List.Sublist.cons_cons _ ?_ | refine List.Sublist.cons _ ?_)) (yld_index (j := i) rfl rfl Tryd.underlying49 F.ti25 rfl hi') rfl ?_
      refine any_take (listed' := [true, true, true, true, true, true, true, true, false, false, false, false, false, false].toArray) 7 rfl rfl rfl (by kernel_rfl) (by kernel_rfl) (by kernel_rfl) (by repeat (first | exact List.Sublist.refl _ | exact List.nil_sublist _ | refine List.Sublist.cons_cons _ ?_ | refine List.Sublist.cons _ ?_)) (yld_load_at (v := .slice s.A s.l.length s.c) rfl F.one25 (fun a w ha => row_cell ha (InR.mem (A := some ⟨gL, 0, none⟩)) rfl (by rw [Nat.zero_add]; exact vals_get hs))) rfl ?_
      refine any_one (listed' := [true, true, true, true, true, true, true, true, true, false, false, false, false, false].toArray) 8 (by kernel_rfl) rfl rfl ?_
      refine lst_fn0 (vs := [_, _, _]) rfl rfl F.ent36 (fun a w ha => follows_c aA s.A ac s.c m2 ags s.l hok (by omega) (by omega) w (row_reads ha (cells := Ag.cells) (size := 5) (e := 24) (c := ac) (n := ags.length) (fun _ => rfl) (InR.mem (A := aA)) rfl) (row_reads ha (cells := ncell) (size := 1) (e := 3) (c := s.c) (n := s.l.length) (fun _ => rfl) (by have hm : Res.row 3 1 s.A s.l.length s.c (ints s.l) ∈ Ls.map Sl.res := List.mem_map.2 ⟨s, hsm, rfl⟩; rw [← ints_flat]; simp [hm]) rfl)) ?_
      refine lst_nil ?_
      refine any_next (by repeat (first | exact List.Sublist.refl _ | exact List.nil_sublist _ | refine List.Sublist.cons_cons _ ?_ | refine List.Sublist.cons _ ?_)) ?_
      refine any_take (listed' := [true, true, true, true, true, true, true, true, true, true, false, false, false, false].toArray) 9 rfl rfl rfl (by kernel_rfl) (by kernel_rfl) (by kernel_rfl) (by repeat (first | exact List.Sublist.refl _ | exact List.nil_sublist _ | refine List.Sublist.cons_cons _ ?_ | refine List.Sublist.cons _ ?_)) (yld_move rfl) rfl ?_
      refine any_take (listed' := [true, true, true, true, true, true, true, true, true, true, true, false, false, false].toArray) 10 rfl rfl rfl (by kernel_rfl) (by kernel_rfl) (by kernel_rfl) (by repeat (first | exact List.Sublist.refl _ | exact List.nil_sublist _ | refine List.Sublist.cons_cons _ ?_ | refine List.Sublist.cons _ ?_)) (yld_extract rfl rfl) rfl ?_
      refine any_take (listed' := [true, true, true, true, true, true, true, true, true, true, true, true, false, false].toArray) 11 rfl rfl rfl (by kernel_rfl) (by kernel_rfl) (by kernel_rfl) (by repeat (first | exact List.Sublist.refl _ | exact List.nil_sublist _ | refine List.Sublist.cons_cons _ ?_ | refine List.Sublist.cons _ ?_)) (yld_extract rfl rfl) rfl ?_
      refine any_take (listed' := [true, true, true, true, true, true, true, true, true, true, true, true, true, false].toArray) 12 rfl rfl rfl (by kernel_rfl) (by kernel_rfl) (by kernel_rfl) (by repeat (first | exact List.Sublist.refl _ | exact List.nil_sublist _ | refine List.Sublist.cons_cons _ ?_ | refine List.Sublist.cons _ ?_)) (yld_assign rfl) rfl ?_
      refine any_take (listed' := [true, true, true, true, true, true, true, true, true, true, true, true, true, true].toArray) 13 rfl rfl rfl (by kernel_rfl) (by kernel_rfl) (by kernel_rfl) (by repeat (first | exact List.Sublist.refl _ | exact List.nil_sublist _ | refine List.Sublist.cons_cons _ ?_ | refine List.Sublist.cons _ ?_)) (yld_assign rfl) rfl ?_
      refine any_done rfl (by kernel_rfl) ?_
      refine ex_then ?_
      refine cod_seq ?_
      refine cod_region ?_
      refine lst_cut1 14 85 (.bool (clears ags m1 m2 p s.l)) ?_ ?_
      · skip
        refine lst_move rfl rfl ?_
        refine lst_move rfl rfl ?_
        refine lst_split_bool (t := 73) rfl (fun hg73 => ?_) (fun hg73 => ?_)
        · skip
          refine lst_on rfl rfl ?_
          refine lst_move rfl rfl ?_
          refine lst_pick_true rfl rfl rfl ?_
          refine lst_move rfl rfl ?_
          refine lst_split_bool (t := 76) rfl (fun hg76 => ?_) (fun hg76 => ?_)
          · skip
            refine lst_on rfl rfl ?_
            refine lst_move rfl rfl ?_
            refine lst_on rfl rfl ?_
            refine lst_move rfl rfl ?_
            refine lst_on rfl rfl ?_
            refine lst_fn0 (vs := [_, _]) rfl rfl F.ent37 (fun a w ha => Clear_c (followV (followN ags m1 s.l)) p hv1 hp w) ?_
            refine lst_pick_true rfl rfl rfl ?_
            refine lst_move rfl rfl ?_
            refine lst_split_bool (t := 81) rfl (fun hg81 => ?_) (fun hg81 => ?_)
            · skip
              refine lst_on rfl rfl ?_
              refine lst_move rfl rfl ?_
              refine lst_on rfl rfl ?_
              refine lst_move rfl rfl ?_
              refine lst_on rfl rfl ?_
              refine lst_fn0 (vs := [_, _]) rfl rfl F.ent37 (fun a w ha => Clear_c (followV (followN ags m2 s.l)) p hv2 hp w) ?_
              refine lst_pick_true rfl rfl rfl ?_
              refine lst_nil ?_
              exact ex_cut (.cons (by simp_all [look, clears]) (by repeat (first | exact Sub.nil _ | refine Sub.cons rfl ?_))) (by repeat (first | exact List.Sublist.refl _ | exact List.nil_sublist _ | refine List.Sublist.cons_cons _ ?_ | refine List.Sublist.cons _ ?_))
            · skip
              refine lst_off rfl rfl rfl ?_
              refine lst_off rfl rfl rfl ?_
              refine lst_off rfl rfl rfl ?_
              refine lst_pick_false rfl rfl rfl ?_
              refine lst_nil ?_
              exact ex_cut (.cons (by simp_all [look, clears]) (by repeat (first | exact Sub.nil _ | refine Sub.cons rfl ?_))) (by repeat (first | exact List.Sublist.refl _ | exact List.nil_sublist _ | refine List.Sublist.cons_cons _ ?_ | refine List.Sublist.cons _ ?_))
          · skip
            refine lst_off rfl rfl rfl ?_
            refine lst_off rfl rfl rfl ?_
            refine lst_off rfl rfl rfl ?_
            refine lst_pick_false rfl rfl rfl ?_
            refine lst_move rfl rfl ?_
            refine lst_split_bool (t := 81) rfl (fun hg81 => ?_) (fun hg81 => ?_)
            · skip
              refine lst_on rfl rfl ?_
              refine lst_move rfl rfl ?_
              refine lst_on rfl rfl ?_
              refine lst_move rfl rfl ?_
              refine lst_on rfl rfl ?_
              refine lst_fn0 (vs := [_, _]) rfl rfl F.ent37 (fun a w ha => Clear_c (followV (followN ags m2 s.l)) p hv2 hp w) ?_
              refine lst_pick_true rfl rfl rfl ?_
              refine lst_nil ?_
              exact ex_cut (.cons (by simp_all [look, clears]) (by repeat (first | exact Sub.nil _ | refine Sub.cons rfl ?_))) (by repeat (first | exact List.Sublist.refl _ | exact List.nil_sublist _ | refine List.Sublist.cons_cons _ ?_ | refine List.Sublist.cons _ ?_))
            · skip
              refine lst_off rfl rfl rfl ?_
              refine lst_off rfl rfl rfl ?_
              refine lst_off rfl rfl rfl ?_
              refine lst_pick_false rfl rfl rfl ?_
              refine lst_nil ?_
              exact ex_cut (.cons (by simp_all [look, clears]) (by repeat (first | exact Sub.nil _ | refine Sub.cons rfl ?_))) (by repeat (first | exact List.Sublist.refl _ | exact List.nil_sublist _ | refine List.Sublist.cons_cons _ ?_ | refine List.Sublist.cons _ ?_))
        · skip
          refine lst_off rfl rfl rfl ?_
          refine lst_pick_false rfl rfl rfl ?_
          refine lst_move rfl rfl ?_
          refine lst_split_bool (t := 76) rfl (fun hg76 => ?_) (fun hg76 => ?_)
          · skip
            refine lst_on rfl rfl ?_
            refine lst_move rfl rfl ?_
            refine lst_on rfl rfl ?_
            refine lst_move rfl rfl ?_
            refine lst_on rfl rfl ?_
            refine lst_fn0 (vs := [_, _]) rfl rfl F.ent37 (fun a w ha => Clear_c (followV (followN ags m1 s.l)) p hv1 hp w) ?_
            refine lst_pick_true rfl rfl rfl ?_
            refine lst_move rfl rfl ?_
            refine lst_split_bool (t := 81) rfl (fun hg81 => ?_) (fun hg81 => ?_)
            · skip
              refine lst_on rfl rfl ?_
              refine lst_move rfl rfl ?_
              refine lst_on rfl rfl ?_
              refine lst_move rfl rfl ?_
              refine lst_on rfl rfl ?_
              refine lst_fn0 (vs := [_, _]) rfl rfl F.ent37 (fun a w ha => Clear_c (followV (followN ags m2 s.l)) p hv2 hp w) ?_
              refine lst_pick_true rfl rfl rfl ?_
              refine lst_nil ?_
              exact ex_cut (.cons (by simp_all [look, clears]) (by repeat (first | exact Sub.nil _ | refine Sub.cons rfl ?_))) (by repeat (first | exact List.Sublist.refl _ | exact List.nil_sublist _ | refine List.Sublist.cons_cons _ ?_ | refine List.Sublist.cons _ ?_))
            · skip
              refine lst_off rfl rfl rfl ?_
              refine lst_off rfl rfl rfl ?_
              refine lst_off rfl rfl rfl ?_
              refine lst_pick_false rfl rfl rfl ?_
              refine lst_nil ?_
              exact ex_cut (.cons (by simp_all [look, clears]) (by repeat (first | exact Sub.nil _ | refine Sub.cons rfl ?_))) (by repeat (first | exact List.Sublist.refl _ | exact List.nil_sublist _ | refine List.Sublist.cons_cons _ ?_ | refine List.Sublist.cons _ ?_))
          · skip
            refine lst_off rfl rfl rfl ?_
            refine lst_off rfl rfl rfl ?_
            refine lst_off rfl rfl rfl ?_
            refine lst_pick_false rfl rfl rfl ?_
            refine lst_move rfl rfl ?_
            refine lst_split_bool (t := 81) rfl (fun hg81 => ?_) (fun hg81 => ?_)
            · skip
              refine lst_on rfl rfl ?_
              refine lst_move rfl rfl ?_
              refine lst_on rfl rfl ?_
              refine lst_move rfl rfl ?_
              refine lst_on rfl rfl ?_
              refine lst_fn0 (vs := [_, _]) rfl rfl F.ent37 (fun a w ha => Clear_c (followV (followN ags m2 s.l)) p hv2 hp w) ?_
              refine lst_pick_true rfl rfl rfl ?_
              refine lst_nil ?_
              exact ex_cut (.cons (by simp_all [look, clears]) (by repeat (first | exact Sub.nil _ | refine Sub.cons rfl ?_))) (by repeat (first | exact List.Sublist.refl _ | exact List.nil_sublist _ | refine List.Sublist.cons_cons _ ?_ | refine List.Sublist.cons _ ?_))
            · skip
              refine lst_off rfl rfl rfl ?_
              refine lst_off rfl rfl rfl ?_
              refine lst_off rfl rfl rfl ?_
              refine lst_pick_false rfl rfl rfl ?_
              refine lst_nil ?_
              exact ex_cut (.cons (by simp_all [look, clears]) (by repeat (first | exact Sub.nil _ | refine Sub.cons rfl ?_))) (by repeat (first | exact List.Sublist.refl _ | exact List.nil_sublist _ | refine List.Sublist.cons_cons _ ?_ | refine List.Sublist.cons _ ?_))
      refine lst_nil ?_
      refine ex_then ?_
      refine cod_cond_bool rfl (fun hc2 => ?_) (fun hc2 => ?_)
      · skip
        have hfirst := first_of_strs hk5 hsx hc2 hK hI
        obtain ⟨kk, rfl, hkh⟩ := found_first hfo hfirst
        refine cod_seq ?_
        refine cod_region ?_
        refine lst_move rfl rfl ?_
        refine lst_int rfl rfl rfl bin_eql ?_
        refine lst_move rfl rfl ?_
        refine lst_on rfl rfl ?_
        refine lst_move rfl rfl ?_
        refine lst_on rfl rfl ?_
        refine lst_move rfl rfl ?_
        refine lst_on rfl rfl ?_
        refine lst_move rfl rfl ?_
        refine lst_on rfl rfl ?_
        refine lst_index (j := i) rfl rfl rfl Tryd.underlying49 F.ti25 rfl hi' ?_
        refine lst_on rfl rfl ?_
        refine lst_load_at (v := .slice s.A s.l.length s.c) rfl rfl F.one25 (fun a w ha => row_cell ha (InR.mem (A := some ⟨gL, 0, none⟩)) rfl (by rw [Nat.zero_add]; exact vals_get hs)) ?_
        refine lst_on rfl rfl ?_
        refine lst_fn0 (v := .bool true) (vs := [_, _]) rfl rfl F.ent32 (fun a w ha => by
          have hr1 : RdL ncell 1 w kk.A kk.how := row_reads ha (cells := ncell) (size := 1) (e := 3) (c := kk.c) (n := kk.how.length) (fun _ => rfl) (by rw [← ints_flat]; exact List.mem_cons.2 (.inr (List.mem_cons.2 (.inl rfl)))) rfl
          have h := eqInts_c kk.A s.A kk.c s.c (kk.how.map fun (n : Nat) => (n : Int)) (s.l.map fun (n : Nat) => (n : Int)) (by rw [List.length_map, hkh]; omega) w hr1.cast (RdL.cast (row_reads ha (cells := ncell) (size := 1) (e := 3) (c := s.c) (n := s.l.length) (fun _ => rfl) (by have hm : Res.row 3 1 s.A s.l.length s.c (ints s.l) ∈ Ls.map Sl.res := List.mem_map.2 ⟨s, hsm, rfl⟩; rw [← ints_flat]; simp [hm]) rfl))
          rw [List.length_map, List.length_map] at h
          exact h.mono (fun e w' h => ⟨h.1.trans (by rw [hkh]; simp), h.2⟩)) ?_
        refine lst_pick_true rfl rfl rfl ?_
        refine lst_move rfl rfl ?_
        refine lst_on rfl rfl ?_
        refine lst_fn0 (vs := []) rfl rfl F.ent21 (fun a w ha => fined_c w) ?_
        refine lst_pick_true rfl rfl rfl ?_
        refine lst_assign rfl rfl ?_
        refine lst_nil ?_
        refine ex_then ?_
        refine cod_ret ?_
        refine ex_block_ret ?_
        refine ex_then_ret ?_
        refine ex_then_ret ?_
        refine ex_block_ret ?_
        refine ex_block_ret ?_
        refine ex_then_ret ?_
        refine ex_then_ret ?_
        refine ex_block_ret ?_
        refine ex_then_ret ?_
        exact ex_ret rfl (fun a w ha => res_one rfl rfl ha) (fun a w ha => ⟨rfl, ha.grown (List.nil_sublist _)⟩)
      · skip
        refine cod_skip ?_
        refine ex_block_normal ?_
        refine ex_then ?_
        refine cod_region ?_
        refine lst_move rfl rfl ?_
        refine lst_int rfl rfl rfl (fun w => bin_add w (wrap_i64' _ (by omega) (by have h1 := strs_le (n := ags.length) (k := k) (by omega) hk5; have h2 : Ls.length = (strs ags.length k).length := (by rw [← hLs, List.length_map]); omega))) ?_
        refine lst_assign rfl rfl ?_
        refine lst_nil ?_
        refine ex_round' (i + 1) ⟨by omega, fun j u hj hju => ?_⟩ (by (try dsimp only); omega) (by repeat (first | exact Sub.nil _ | refine Sub.cons rfl ?_)) (by repeat (first | exact Pck.nil _ | exact Pck.refl _ | (apply Pck.cons; focus ((repeat (first | exact Rem.here _ | apply Rem.there)); done)) | refine Pck.skip _ ?_))
        rcases Nat.lt_or_ge j i with h | h
        · exact hI j u h hju
        · obtain rfl : j = i := by omega
          rw [hsx] at hju
          cases hju
          exact hc2
    · skip
      obtain rfl : i = Ls.length := by omega
      have hLl : Ls.length = (strs ags.length k).length := by rw [← hLs, List.length_map]
      refine cod_exit ?_
      refine ex_then_exit ?_
      refine ex_then_exit ?_
      refine ex_block_exit ?_
      refine ex_block_normal ?_
      refine ex_then ?_
      refine cod_region ?_
      refine lst_move rfl rfl ?_
      refine lst_int rfl rfl rfl (fun w => bin_add w (wrap_i64' _ (by omega) (by omega))) ?_
      refine lst_assign rfl rfl ?_
      refine lst_nil ?_
      refine ex_round' (k + 1) ⟨by omega, fun u hu hul => ?_⟩ (by (try dsimp only); omega) (by repeat (first | exact Sub.nil _ | refine Sub.cons rfl ?_)) (by repeat (first | exact Pck.nil _ | exact Pck.refl _ | (apply Pck.cons; focus ((repeat (first | exact Rem.here _ | apply Rem.there)); done)) | refine Pck.skip _ ?_))
      rcases Nat.lt_or_ge u.length k with h | h
      · exact hK u hu h
      · obtain ⟨j, hj⟩ := List.getElem?_of_mem (strs_all hu (show u.length = k by omega))
        exact hI j u (by rw [hLl]; exact (List.getElem?_eq_some_iff.1 hj).1) hj
  · skip
    obtain rfl : k = 6 := by omega
    have ho : o = none := by
      cases o with
      | none => rfl
      | some kk =>
        exfalso
        have hfit := found_len hfo
        have hcl := clears_run.2 ⟨kk.team, hfo.2.1, hfo.2.2⟩
        rw [hK kk.how (run_wd _ stepT_none _ _ _ hfo.2.1) (by omega)] at hcl
        cases hcl
    subst ho
    refine cod_exit ?_
    refine ex_then_exit ?_
    refine ex_then_exit ?_
    refine ex_block_exit ?_
    refine ex_then ?_
    refine cod_seq ?_
    refine cod_region ?_
    refine lst_move rfl rfl ?_
    refine lst_int rfl rfl rfl bin_eql ?_
    refine lst_move rfl rfl ?_
    refine lst_on rfl rfl ?_
    refine lst_move rfl rfl ?_
    refine lst_on rfl rfl ?_
    refine lst_len rfl rfl Tryd.underlying25 ?_
    refine lst_on rfl rfl ?_
    refine lst_int rfl rfl rfl bin_eql ?_
    refine lst_pick_true rfl rfl rfl ?_
    refine lst_move rfl rfl ?_
    refine lst_on rfl rfl ?_
    refine lst_fn0 (vs := []) rfl rfl F.ent21 (fun a w ha => fined_c w) ?_
    refine lst_pick_true rfl rfl rfl ?_
    refine lst_assign rfl rfl ?_
    refine lst_nil ?_
    refine ex_then ?_
    refine cod_ret ?_
    exact ex_ret rfl (fun a w ha => res_one rfl rfl ha) (fun a w ha => ⟨rfl, ha.grown (List.nil_sublist _)⟩)

end Go.Proofs.YtofkhehcnfiopaaDoor.N
namespace Go.Proofs.YtofkhehcnfiopaaDoor.N
open Go
theorem returnsInLeavingWide_of_calls {a : Assume} {C : Checked} {os : Os} {f : FuncId} {r : Reach} {Pre : World → Array Value → Prop} {Post : World → Array Value → Value → World → Prop}
    (own : ownKnob C.prog.godebug = none) (started : os.Started) (noInit : C.prog.inits.idxOf? f = none)
    (witness : ∃ (w : World) (tape : Tape) (i : Input), w.os = os ∧ (w.forCall tape i).Shaped C.prog ∧ i.vars = [] ∧ Input.okWide C.prog (w.forCall tape i) r w.heap.size f i ∧ Pre (w.forCall tape i).memory i.args ∧
      a.holds C.prog (lone (Frame.enter C.prog f i.args .normal) [] (w.forCall tape i)))
    (contract : ∀ (w : World) (tape : Tape) (i : Input), w.os = os → (w.forCall tape i).ShapedOpen C.prog → i.vars = [] → Input.okWide C.prog (w.forCall tape i) r w.heap.size f i → Pre (w.forCall tape i).memory i.args →
      a.holds C.prog (lone (Frame.enter C.prog f i.args .normal) [] (w.forCall tape i)) →
      Calls C.prog f i.args (w.forCall tape i) fun
        | .returned v, w' => Post (w.forCall tape i).blind i.args v w'.blind
        | _, _ => False) :
    ReturnsInLeavingWide a C os f r Pre Post := fun enter => by
  obtain ⟨w0, t0, i0, a1, a2, a3, a4, a5, a6⟩ := witness
  refine ⟨enter, own, started, ⟨w0, t0, i0, a1, a2, a3, a4, a5, a6, trivial⟩, fun w tape i h => ?_⟩
  obtain ⟨n, v, w', fr, hn, hend, hp⟩ := (contract w tape i h.1 h.2.1 h.2.2.1 h.2.2.2.1 h.2.2.2.2.1 h.2.2.2.2.2.1).done_lone noInit
  have hal := alone_of_lone (w' := w') hn
  refine ⟨n + 1, v, w', hend, (clean_of_lone hn).2, roomy_placeholder .., hp, ⟨n, _, hn, step_of_runs hn hend, ⟨hal.2.1, onlyLeaving_of_quiet hal.1, hal.2.2⟩⟩, fun _ _ _ => trivial⟩
theorem returnsInLeavingWide_of_change_calls {H : Type} {enc : TypeId × Value → H} {a : Assume} {C : Checked} {os : Os} {f : FuncId} {fn : Func} {s : ChangeSpec} {conds : List PathCond} {apart fresh handsOn again : Bool}
    (own : ownKnob C.prog.godebug = none) (started : os.Started) (noInit : C.prog.inits.idxOf? f = none) (hfn : C.prog.funcs[f]? = some fn)
    (witness : ∃ (w : World) (tape : Tape) (i : Input), w.os = os ∧ (w.forCall tape i).Shaped C.prog ∧ i.vars = [] ∧ Input.okWide C.prog (w.forCall tape i) .any w.heap.size f i ∧
      s.pre6 enc C.prog fn conds apart (w.forCall tape i).memory i.args ∧ a.holds C.prog (lone (Frame.enter C.prog f i.args .normal) [] (w.forCall tape i)))
    (contract : ∀ (W : World) (base : Nat) (args : Array Value) (ds gs : List (DataW H)) (before : List MemPlace),
      (∀ (j : Nat) t v, fn.params[j]? = some t → args[j]? = some v → Value.okWide C.prog W .any base t v) →
      DataW.Whole enc C.prog fn.params.toList s.vars apart W args.toList ds gs before →
      conds.all (PathCond.test C.prog ⟨fn.params.toList, ds, s.plain.varTypes C.prog, gs⟩) = true →
      (DataW.weightsEach C.prog (fn.params.toList ++ s.plain.varTypes C.prog) (ds ++ gs)).all (· ≤ reachBytes) = true →
      a.holds C.prog (lone (Frame.enter C.prog f args .normal) [] W) →
      Calls C.prog f args W fun e W' => ∃ v, e = .returned v ∧ s.post enc C.prog fn apart fresh handsOn again W args v W') :
    ReturnsInLeavingWide a C os f .any (s.pre6 enc C.prog fn conds apart) (s.post enc C.prog fn apart fresh handsOn again) := by
  refine returnsInLeavingWide_of_calls own started noInit witness ?_
  intro w tape i _ _ _ hok hpre hholds
  obtain ⟨_, _, _, fn', hfn', _, _, _, _, hval⟩ := hok
  have e : fn' = fn := Option.some.inj (hfn'.symm.trans hfn)
  subst e
  obtain ⟨⟨ds, gs, before, hw, hc⟩, hz⟩ := hpre
  have hw' := DataW.Whole.of_heap (w' := w.forCall tape i) (by rfl) hw
  refine (contract (w.forCall tape i) w.heap.size i.args ds gs before hval hw' hc (hz.weights hw) hholds).mono fun e W' ⟨v, he, hp⟩ => ?_
  subst he
  exact ChangeSpec.post_blind hp
theorem returnsInLeavingWide_of_change_and {H : Type} {enc : TypeId × Value → H} {a : Assume} {C : Checked} {os : Os} {f : FuncId} {fn : Func} {s : ChangeSpec} {conds : List PathCond} {apart fresh handsOn again : Bool} {X : World → Array Value → Prop}
    (hX : ∀ (w w' : World) (args : Array Value), w.heap = w'.heap → X w args → X w' args)
    (own : ownKnob C.prog.godebug = none) (started : os.Started) (noInit : C.prog.inits.idxOf? f = none) (hfn : C.prog.funcs[f]? = some fn)
    (witness : ∃ (w : World) (tape : Tape) (i : Input), w.os = os ∧ (w.forCall tape i).Shaped C.prog ∧ i.vars = [] ∧ Input.okWide C.prog (w.forCall tape i) .any w.heap.size f i ∧
      ((s.pre enc C.prog fn conds apart (w.forCall tape i).memory i.args ∧ X (w.forCall tape i).memory i.args) ∧ sizedMet enc C.prog fn (OpenSpec.ofChange s) apart (w.forCall tape i).memory i.args) ∧ a.holds C.prog (lone (Frame.enter C.prog f i.args .normal) [] (w.forCall tape i)))
    (contract : ∀ (W : World) (base : Nat) (args : Array Value) (ds gs : List (DataW H)) (before : List MemPlace),
      (∀ (j : Nat) t v, fn.params[j]? = some t → args[j]? = some v → Value.okWide C.prog W .any base t v) →
      DataW.Whole enc C.prog fn.params.toList s.vars apart W args.toList ds gs before →
      conds.all (PathCond.test C.prog ⟨fn.params.toList, ds, s.plain.varTypes C.prog, gs⟩) = true →
      (DataW.weightsEach C.prog (fn.params.toList ++ s.plain.varTypes C.prog) (ds ++ gs)).all (· ≤ reachBytes) = true → X W args →
      a.holds C.prog (lone (Frame.enter C.prog f args .normal) [] W) →
      Calls C.prog f args W fun e W' => ∃ v, e = .returned v ∧ s.post enc C.prog fn apart fresh handsOn again W args v W') :
    ReturnsInLeavingWide a C os f .any (fun w args => (s.pre enc C.prog fn conds apart w args ∧ X w args) ∧ sizedMet enc C.prog fn (OpenSpec.ofChange s) apart w args) (s.post enc C.prog fn apart fresh handsOn again) := by
  refine returnsInLeavingWide_of_calls own started noInit witness ?_
  intro w tape i _ _ _ hok hpre hholds
  obtain ⟨_, _, _, fn', hfn', _, _, _, _, hval⟩ := hok
  have e : fn' = fn := Option.some.inj (hfn'.symm.trans hfn)
  subst e
  obtain ⟨⟨⟨ds, gs, before, hw, hc⟩, hx⟩, hz⟩ := hpre
  have hw' := DataW.Whole.of_heap (w' := w.forCall tape i) (by rfl) hw
  refine (contract (w.forCall tape i) w.heap.size i.args ds gs before hval hw' hc (hz.weights hw) (hX _ _ _ (by rfl) hx) hholds).mono fun e W' ⟨v, he, hp⟩ => ?_
  subst he
  exact ChangeSpec.post_blind hp
end Go.Proofs.YtofkhehcnfiopaaDoor.N
/- What rows of laws about numbers share: the laid world, and the law from its lone call. -/
namespace Go.Proofs.YtofkhehcnfiopaaDoor.N
open Go Go.ChangeShapes Go.WideShapes Go.ChangeAt Go.RowKit Go.Proofs Go.Proofs.YtofkhehcnfiopaaDoor Go.Proofs.YtofkhehcnfiopaaDoor.Rows
theorem own_ : ownKnob Tryd.prog.godebug = Option.none := by kernel_rfl
theorem laidOut_ : laidOutB Tryd.prog = true := by kernel_rfl
theorem cells3_ : Tryd.prog.cellsOf 3 = 1 := by kernel_rfl
theorem bytes3_ : Tryd.prog.bytesOf 3 = 8 := by kernel_rfl
theorem und25_ : Tryd.prog.underlying 25 = some (.slice 3) := by kernel_rfl
theorem und3_ : Tryd.prog.underlying 3 = some (.int .i64) := by kernel_rfl
theorem und4_ : Tryd.prog.underlying 4 = some .bool := by kernel_rfl
theorem read25_ : Tryd.prog.readableRec 25 = true := by kernel_rfl
set_option maxRecDepth 100000 in
theorem size_ : 25 < Tryd.prog.types.size := of_decide_eq_true (by kernel_rfl)
def laidL : List (String × DataW Unit) := [("errors.errorType", laid_errors_errorType)]
/-- The settled world, with the one listed variable laid. -/
noncomputable def laidWorld (os : Os) : World :=
  let w0 := World.holding Tryd.prog os ⟨#[], #[], []⟩
  { w0 with heap := w0.heap.modify 0 fun
      | .cells _ t frozen => .cells #[.iface 166 (.agg #[.pointer (some ⟨1, 107, Option.none⟩)])] t frozen
      | o => o }
theorem laidWorld_met (os : Os) (args : Array Value) : laidMetH Tryd.prog laidL ((laidWorld os).forCall (fun _ _ => 0) ⟨#[], args, []⟩).memory :=
  laidMetH_of_parts (laidMet_nil _ _) (by kernel_rfl)
set_option maxRecDepth 100000 in
/-- A law of one list of numbers: the row's contract, from the law's own. -/
theorem ints_contract {H : Type} {enc : TypeId × Value → H} {f : FuncId} {fn : Func} {s : ChangeSpec} (hp : fn.params = #[25]) (hr : fn.resultTypes = #[4]) (hs : s.vars = []) (hfn : ∀ d : DataW H, s.fn H [d] = { results := [.lit (.bool true)], args := [d] })
    (law : ∀ (nA : Option Addr) (nc : Nat) (nums : List Int) (w : World), RdL icell 1 w nA nums → Calls Tryd.prog f #[.slice nA nums.length nc] w fun e w' => e = .returned (.bool true) ∧ Grew w w' [])
    (W : World) (base : Nat) (args : Array Value) (ds gs : List (DataW H)) (before : List MemPlace)
    (hval : ∀ (j : Nat) t v, fn.params[j]? = some t → args[j]? = some v → Value.okWide Tryd.prog W .any base t v)
    (hW : DataW.Whole enc Tryd.prog fn.params.toList s.vars false W args.toList ds gs before) :
    Calls Tryd.prog f args W fun e W' => ∃ v, e = .returned v ∧ s.post enc Tryd.prog fn false true false false W args v W' := by
  have hW' := hW
  obtain ⟨p, q, hA, hV, rfl, _, _⟩ := hW
  rw [hs] at hV
  rw [hp] at hA hval
  obtain ⟨v0, d0, rfl, rfl, h0⟩ := trodAll_one hA
  obtain ⟨rfl, rfl⟩ := trodVars_none hV
  obtain ⟨a0, len, cap, rfl⟩ := okWide_slice und25_ (hval 0 25 v0 rfl rfl)
  have h0k := h0
  obtain ⟨fuel, hf⟩ := h0
  clear hA
  simp only [List.append_nil] at hW'
  have hlt : ∀ x ∈ p, x.block < W.heap.size := fun x hx => by simpa using hW'.lt x hx
  have hargs : ∀ (W' : World), Below W.heap.size W W' → DataW.Trod enc Tryd.prog W' 0 (fun b => decide (b < W.heap.size)) true 25 (.slice a0 len cap) d0 p :=
    fun W' hn => Below.trod laidOut_ read25_ size_ h0k hn hlt
  have close : ∀ nums : List Int, nums.length = len → RdL icell 1 W a0 nums → Calls Tryd.prog f #[.slice a0 len cap] W fun e W' => ∃ v, e = .returned v ∧ s.post enc Tryd.prog fn false true false false W #[.slice a0 len cap] v W' := by
    intro nums hn hR
    have hl := law a0 cap nums W hR
    rw [hn] at hl
    refine hl.mono fun e W' ⟨he, hg⟩ => ?_
    subst he
    refine ⟨_, rfl, _, _, _, [], p, [], hW', ?_, ?_, ?_, hg.1.frame _, fun h => Bool.noConfusion h⟩
    · rw [show s.fn H ([d0] ++ []) = _ from hfn d0, hr]; exact trodAll_mk1 (shut_bool und4_ true)
    · rw [show s.fn H ([d0] ++ []) = _ from hfn d0, hp]; exact trodAll_mk1 (hargs W' hg.1)
    · rw [show s.fn H ([d0] ++ []) = _ from hfn d0, hs]; rfl
  rcases open_ints und25_ und3_ cells3_ hf with ⟨hcs, hx⟩ | ⟨a, len', cap', zs, hcs, _, hl, hm, hz, hx, hcell, hwz⟩
  · simp [Value.cells] at hcs
    obtain ⟨rfl, rfl, rfl⟩ := hcs
    exact close [] rfl (fun h => absurd h (by simp))
  · simp [Value.cells] at hcs
    obtain ⟨rfl, rfl, rfl⟩ := hcs
    simp only [Prod.mk.injEq] at hx
    obtain ⟨rfl, rfl⟩ := hx
    simp only [if_true] at hz
    obtain ⟨b, off, spot⟩ := a
    refine close (zs.take len) (by rw [List.length_take]; omega) (fun hpos => ?_)
    rw [List.length_take] at hpos
    have hspot : spot = Option.none := by simpa [Addr.add] using World.cell?_spot (hcell 0 (by omega))
    subst hspot
    refine ⟨b, off, rfl, hlt (.cell b off) (MemPlace.mem_row.2 ⟨0, by omega, by simp⟩), fun k x hk j u hu => ?_⟩
    rw [List.getElem?_take] at hk
    split at hk
    · rename_i hkl
      cases j with
      | zero =>
        simp [icell] at hu
        subst hu
        have := hcell k (by omega)
        rw [List.getD_eq_getElem?_getD, hk] at this
        rw [Nat.mul_one, Nat.add_zero]
        rw [add_plain] at this
        exact this
      | succ j => simp [icell] at hu
    · cases hk
/-! The program's order of start-up, letter by letter: what is said of it is then soon shown. -/
def orderN : List Nat := [104, 97, 114, 110, 101, 115, 115, 32, 52, 51, 55, 51, 50, 49, 102, 55, 48, 48, 50, 49, 100, 55, 53, 49, 98, 55, 102, 54, 57, 52, 102, 101, 54, 102, 52, 54, 99, 48, 98, 99, 101, 56, 49, 49, 56, 98, 100, 51, 55, 102, 52, 101, 52, 49, 49, 99, 97, 53, 99, 100, 55, 50, 51, 98, 48, 101, 48, 53, 57, 50, 100, 98, 32, 99, 117, 116, 32, 97, 116, 32, 109, 117, 115, 99, 111, 118, 97, 100, 111, 47, 109, 117, 115, 99, 111, 118, 97, 100, 111, 108, 97, 119, 48, 57, 46, 70, 105, 110, 105, 110, 103, 66, 111, 116, 104, 115, 32, 109, 117, 115, 99, 111, 118, 97, 100, 111, 47, 109, 117, 115, 99, 111, 118, 97, 100, 111, 108, 97, 119, 48, 57, 46, 70, 105, 110, 105, 110, 103, 67, 104, 101, 97, 112, 101, 115, 116, 32, 109, 117, 115, 99, 111, 118, 97, 100, 111, 47, 109, 117, 115, 99, 111, 118, 97, 100, 111, 108, 97, 119, 48, 57, 46, 70, 105, 110, 105, 110, 103, 66, 111, 116, 104, 32, 109, 117, 115, 99, 111, 118, 97, 100, 111, 47, 109, 117, 115, 99, 111, 118, 97, 100, 111, 108, 97, 119, 48, 57, 46, 70, 105, 110, 105, 110, 103, 84, 101, 108, 108, 115, 32, 109, 117, 115, 99, 111, 118, 97, 100, 111, 47, 109, 117, 115, 99, 111, 118, 97, 100, 111, 108, 97, 119, 48, 57, 46, 70, 105, 110, 105, 110, 103, 80, 117, 116, 32, 109, 117, 115, 99, 111, 118, 97, 100, 111, 47, 109, 117, 115, 99, 111, 118, 97, 100, 111, 108, 97, 119, 48, 57, 46, 70, 105, 110, 105, 110, 103, 80, 117, 116, 115, 32, 109, 117, 115, 99, 111, 118, 97, 100, 111, 47, 109, 117, 115, 99, 111, 118, 97, 100, 111, 108, 97, 119, 48, 57, 46, 70, 105, 110, 105, 110, 103, 77, 111, 114, 101, 32, 109, 117, 115, 99, 111, 118, 97, 100, 111, 47, 109, 117, 115, 99, 111, 118, 97, 100, 111, 108, 97, 119, 48, 57, 46, 70, 105, 110, 105, 110, 103, 78, 117, 109, 98, 101, 114, 101, 100, 32, 109, 117, 115, 99, 111, 118, 97, 100, 111, 47, 109, 117, 115, 99, 111, 118, 97, 100, 111, 108, 97, 119, 48, 57, 46, 70, 105, 110, 105, 110, 103, 78, 101, 101, 100, 115, 32, 109, 117, 115, 99, 111, 118, 97, 100, 111, 47, 109, 117, 115, 99, 111, 118, 97, 100, 111, 108, 97, 119, 48, 57, 46, 70, 105, 110, 105, 110, 103, 78, 101, 101, 100, 101, 100, 32, 109, 117, 115, 99, 111, 118, 97, 100, 111, 47, 109, 117, 115, 99, 111, 118, 97, 100, 111, 108, 97, 119, 48, 57, 46, 70, 105, 110, 105, 110, 103, 87, 97, 121, 115, 32, 109, 117, 115, 99, 111, 118, 97, 100, 111, 47, 109, 117, 115, 99, 111, 118, 97, 100, 111, 108, 97, 119, 48, 57, 46, 70, 105, 110, 105, 110, 103, 82, 101, 97, 99, 104, 32, 109, 117, 115, 99, 111, 118, 97, 100, 111, 47, 109, 117, 115, 99, 111, 118, 97, 100, 111, 108, 97, 119, 48, 57, 46, 70, 105, 110, 105, 110, 103, 83, 104, 111, 114, 116, 101, 115, 116, 32, 109, 117, 115, 99, 111, 118, 97, 100, 111, 47, 109, 117, 115, 99, 111, 118, 97, 100, 111, 108, 97, 119, 48, 57, 46, 70, 105, 110, 105, 110, 103, 72, 111, 112, 101, 108, 101, 115, 115, 32, 109, 117, 115, 99, 111, 118, 97, 100, 111, 47, 109, 117, 115, 99, 111, 118, 97, 100, 111, 108, 97, 119, 48, 57, 46, 70, 105, 110, 105, 110, 103, 70, 97, 117, 108, 116, 115, 32, 109, 117, 115, 99, 111, 118, 97, 100, 111, 47, 109, 117, 115, 99, 111, 118, 97, 100, 111, 108, 97, 119, 48, 57, 46, 70, 105, 110, 105, 110, 103, 72, 111, 112, 101, 115, 32, 109, 117, 115, 99, 111, 118, 97, 100, 111, 47, 109, 117, 115, 99, 111, 118, 97, 100, 111, 108, 97, 119, 48, 57, 46, 70, 105, 110, 105, 110, 103, 70, 101, 119, 101, 115, 116, 32, 109, 117, 115, 99, 111, 118, 97, 100, 111, 47, 109, 117, 115, 99, 111, 118, 97, 100, 111, 108, 97, 119, 48, 57, 46, 70, 105, 110, 105, 110, 103, 75, 110, 111, 119, 110]
def wordsN : List (List Nat) := [[104, 97, 114, 110, 101, 115, 115], [52, 51, 55, 51, 50, 49, 102, 55, 48, 48, 50, 49, 100, 55, 53, 49, 98, 55, 102, 54, 57, 52, 102, 101, 54, 102, 52, 54, 99, 48, 98, 99, 101, 56, 49, 49, 56, 98, 100, 51, 55, 102, 52, 101, 52, 49, 49, 99, 97, 53, 99, 100, 55, 50, 51, 98, 48, 101, 48, 53, 57, 50, 100, 98], [99, 117, 116], [97, 116], [109, 117, 115, 99, 111, 118, 97, 100, 111, 47, 109, 117, 115, 99, 111, 118, 97, 100, 111, 108, 97, 119, 48, 57, 46, 70, 105, 110, 105, 110, 103, 66, 111, 116, 104, 115], [109, 117, 115, 99, 111, 118, 97, 100, 111, 47, 109, 117, 115, 99, 111, 118, 97, 100, 111, 108, 97, 119, 48, 57, 46, 70, 105, 110, 105, 110, 103, 67, 104, 101, 97, 112, 101, 115, 116], [109, 117, 115, 99, 111, 118, 97, 100, 111, 47, 109, 117, 115, 99, 111, 118, 97, 100, 111, 108, 97, 119, 48, 57, 46, 70, 105, 110, 105, 110, 103, 66, 111, 116, 104], [109, 117, 115, 99, 111, 118, 97, 100, 111, 47, 109, 117, 115, 99, 111, 118, 97, 100, 111, 108, 97, 119, 48, 57, 46, 70, 105, 110, 105, 110, 103, 84, 101, 108, 108, 115], [109, 117, 115, 99, 111, 118, 97, 100, 111, 47, 109, 117, 115, 99, 111, 118, 97, 100, 111, 108, 97, 119, 48, 57, 46, 70, 105, 110, 105, 110, 103, 80, 117, 116], [109, 117, 115, 99, 111, 118, 97, 100, 111, 47, 109, 117, 115, 99, 111, 118, 97, 100, 111, 108, 97, 119, 48, 57, 46, 70, 105, 110, 105, 110, 103, 80, 117, 116, 115], [109, 117, 115, 99, 111, 118, 97, 100, 111, 47, 109, 117, 115, 99, 111, 118, 97, 100, 111, 108, 97, 119, 48, 57, 46, 70, 105, 110, 105, 110, 103, 77, 111, 114, 101], [109, 117, 115, 99, 111, 118, 97, 100, 111, 47, 109, 117, 115, 99, 111, 118, 97, 100, 111, 108, 97, 119, 48, 57, 46, 70, 105, 110, 105, 110, 103, 78, 117, 109, 98, 101, 114, 101, 100], [109, 117, 115, 99, 111, 118, 97, 100, 111, 47, 109, 117, 115, 99, 111, 118, 97, 100, 111, 108, 97, 119, 48, 57, 46, 70, 105, 110, 105, 110, 103, 78, 101, 101, 100, 115], [109, 117, 115, 99, 111, 118, 97, 100, 111, 47, 109, 117, 115, 99, 111, 118, 97, 100, 111, 108, 97, 119, 48, 57, 46, 70, 105, 110, 105, 110, 103, 78, 101, 101, 100, 101, 100], [109, 117, 115, 99, 111, 118, 97, 100, 111, 47, 109, 117, 115, 99, 111, 118, 97, 100, 111, 108, 97, 119, 48, 57, 46, 70, 105, 110, 105, 110, 103, 87, 97, 121, 115], [109, 117, 115, 99, 111, 118, 97, 100, 111, 47, 109, 117, 115, 99, 111, 118, 97, 100, 111, 108, 97, 119, 48, 57, 46, 70, 105, 110, 105, 110, 103, 82, 101, 97, 99, 104], [109, 117, 115, 99, 111, 118, 97, 100, 111, 47, 109, 117, 115, 99, 111, 118, 97, 100, 111, 108, 97, 119, 48, 57, 46, 70, 105, 110, 105, 110, 103, 83, 104, 111, 114, 116, 101, 115, 116], [109, 117, 115, 99, 111, 118, 97, 100, 111, 47, 109, 117, 115, 99, 111, 118, 97, 100, 111, 108, 97, 119, 48, 57, 46, 70, 105, 110, 105, 110, 103, 72, 111, 112, 101, 108, 101, 115, 115], [109, 117, 115, 99, 111, 118, 97, 100, 111, 47, 109, 117, 115, 99, 111, 118, 97, 100, 111, 108, 97, 119, 48, 57, 46, 70, 105, 110, 105, 110, 103, 70, 97, 117, 108, 116, 115], [109, 117, 115, 99, 111, 118, 97, 100, 111, 47, 109, 117, 115, 99, 111, 118, 97, 100, 111, 108, 97, 119, 48, 57, 46, 70, 105, 110, 105, 110, 103, 72, 111, 112, 101, 115], [109, 117, 115, 99, 111, 118, 97, 100, 111, 47, 109, 117, 115, 99, 111, 118, 97, 100, 111, 108, 97, 119, 48, 57, 46, 70, 105, 110, 105, 110, 103, 70, 101, 119, 101, 115, 116], [109, 117, 115, 99, 111, 118, 97, 100, 111, 47, 109, 117, 115, 99, 111, 118, 97, 100, 111, 108, 97, 119, 48, 57, 46, 70, 105, 110, 105, 110, 103, 75, 110, 111, 119, 110]]
set_option maxRecDepth 100000 in
theorem order_ : Tryd.prog.initOrder = String.ofList (orderN.map Char.ofNat) := by kernel_rfl
theorem orderL_ : Tryd.prog.initOrder.toList = orderN.map Char.ofNat := by rw [order_, String.toList_ofList]
def wordN (k : Nat) : List Char := (wordsN.getD k []).map Char.ofNat
def wordR : List (List Char) := (wordsN.drop 3).map (·.map Char.ofNat)
set_option maxRecDepth 100000 in
theorem words0_ : wordsSigns Tryd.prog.initOrder.toList = wordN 0 :: wordN 1 :: wordN 2 :: wordR := by
  rw [orderL_]
  kernel_rfl
theorem behind_of {a b : List Char} {r : List (List Char)} (h1 : (a == "harness".toList || a == "ownmain".toList) = true) (h2 : isSumSigns b = true) : behindMainWord (a :: b :: r) = r := by
  unfold behindMainWord
  dsimp only
  rw [h1, h2]
  rfl
theorem words_ : behindMainWord (wordsSigns Tryd.prog.initOrder.toList) = wordN 2 :: wordR := by
  rw [words0_]
  exact behind_of (by kernel_rfl) (by kernel_rfl)
theorem make_of {P : Program} {c : List Char} {rest : List (List Char)} (h : behindMainWord (wordsSigns P.initOrder.toList) = c :: rest) (h1 : (c == "gc".toList || c == "spec".toList) = false) (h2 : (c == "cut".toList) = true) : P.make = some .cut := by
  unfold Program.make
  rw [h]
  dsimp only
  rw [h1, h2]
  rfl
theorem may_of {P : Program} {c : List Char} {rest : List (List Char)} (h : behindMainWord (wordsSigns P.initOrder.toList) = c :: rest) (h1 : (stripLifts liftWords (c :: rest)).1 = []) (h2 : ((stripLifts liftWords (c :: rest)).2.head? == some "cut".toList) = true) (h3 : P.laysLater = false) (h4 : P.bearsReflect = false) (h5 : P.doorFits [] = true) : P.mayEnter = true := by
  unfold Program.mayEnter
  rw [h]
  dsimp only
  rw [h1, h2, h3, h4, h5]
  simp
theorem lifts_of {P : Program} {c : List Char} {rest : List (List Char)} (h : behindMainWord (wordsSigns P.initOrder.toList) = c :: rest) (h1 : (stripLifts liftWords (c :: rest)).1 = []) (h2 : (c == "carried".toList) = false) : P.liftsFinal = false := by
  have e : (some c == some "carried".toList) = false := h2
  unfold Program.liftsFinal Program.headLifts
  dsimp only
  rw [h, h1, List.head?_cons, e]
  simp
theorem main_of {P : Program} {a b : List Char} {r : List (List Char)} {s : String} (h : wordsSigns P.initOrder.toList = a :: b :: r) (h1 : isSumSigns b = true) (h2 : (a == "harness".toList) = true) (h3 : s = String.ofList b) : P.mainIs = some (true, s.toList) := by
  unfold Program.mainIs
  rw [h]
  dsimp only
  rw [h1, h2, h3]
  simp [String.toList_ofList]
theorem word_lifts : (stripLifts liftWords (wordN 2 :: wordR)).1 = [] := by kernel_rfl
set_option maxRecDepth 100000 in
theorem make_ : Tryd.prog.make = some .cut := make_of words_ (by kernel_rfl) (by kernel_rfl)
set_option maxRecDepth 100000 in
theorem lifts_ : Tryd.prog.liftsFinal = false := lifts_of words_ word_lifts (by kernel_rfl)
set_option maxRecDepth 100000 in
theorem main_ : Tryd.prog.mainIs = some (true, "437321f70021d751b7f694fe6f46c0bce8118bd37f4e411ca5cd723b0e0592db".toList) := main_of words0_ (by kernel_rfl) (by kernel_rfl) (by kernel_rfl)
set_option maxRecDepth 100000 in
theorem laysLater_ : Tryd.prog.laysLater = false := by kernel_rfl
set_option maxRecDepth 100000 in
theorem bearsReflect_ : Tryd.prog.bearsReflect = false := by kernel_rfl
set_option maxRecDepth 100000 in
theorem door_ : Tryd.prog.doorFits [] = true := by kernel_rfl
set_option maxRecDepth 100000 in
theorem may_ : Tryd.prog.mayEnter = true := may_of words_ word_lifts (by kernel_rfl) laysLater_ bearsReflect_ door_
set_option maxRecDepth 100000 in
theorem mapsRowed_ : mapsRowed Tryd.prog = true := by kernel_rfl
set_option maxRecDepth 100000 in
theorem plainKeys_ : Tryd.prog.plainKeys = false := by kernel_rfl
set_option maxRecDepth 100000 in
theorem stopsHeard_ : Tryd.prog.stopsHeard = true := by kernel_rfl
set_option maxRecDepth 100000 in
theorem looks_ : Tryd.prog.looks [] = true := by kernel_rfl
/-- A tied card whose calls can start goroutines. -/
theorem holds_tied_goes (Lk : Looks) {p : Pinned} {s : OpenSpec} {c : OpenClaim} (kinds : List LaidKind) (tests : Bool) (har : Bool × String) (lk g : Bool)
    (hc : c.holds p s) (hw : c.wfByText s = true) (htie : c.laidByTextAt Lk p kinds tests)
    (hst : c.start = .entering) (hnb : c.noBlocks = false ∧ c.again = false) (hm : p.checked.prog.mainIs = some (har.1, har.2.toList)) (hn : (!har.1 && har.2.isEmpty && !lk) = false)
    (hl : ∀ f fn, p.checked.prog.funcNamed c.func = some f → p.checked.prog.funcs[f]? = some fn → lk = p.checked.prog.looks [] ∧ ∀ (j : Nat) t, fn.params[j]? = some t → p.checked.prog.wantsStandIn t = false)
    (hg : g = c.goesBy p.checked.prog) :
    Claim7.holds p (.plain s) { stood := { row := c, standIns := [], harness := har, looks := lk }, kinds := [], alts := [], goes := g, laidByText := true, laidKinds := kinds, laidTests := tests, laidLooks := Lk } := by
  have h6 : ∀ r : OpenClaim, Claim7.isSixth { stood := { row := r, standIns := [], harness := har, looks := lk }, kinds := [] } = false := fun r => by simpa [Claim7.isSixth] using hn
  refine ⟨Claim7.tied_new_at Lk kinds tests (Claim7.new_of_sixth hc har lk hst hnb hm (h6 c) hl) hw, fun D hD => ?_, htie, (fun h => by cases h), hg⟩
  cases hD
end Go.Proofs.YtofkhehcnfiopaaDoor.N
