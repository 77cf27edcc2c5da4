/- Parts of the walk of the law TopCrushed: T21, TopAw. -/
import Derived.Test.YthkbagikmbcphaaDoorSTopCrushed08
import Derived.Test.YthkbagikmbcphaaDoorProg
import Derived.Test.YthkbagikmbcphaaDoorSTopCrushed00
import Derived.Test.YthkbagikmbcphaaDoorSTopCrushed01
namespace Go.Proofs.YthkbagikmbcphaaDoor.N
open Go Go.RowKit Go.Proofs

theorem SawOf_c {C : Ctx} {fr : List (Nat × Value)} {T : List Res} {a : Act} {w : World} (hC : C.P = Tryd.prog) {hb tk st nc : Nat} {nA : Option Addr} {nums : List Int} (hB : C.w0.heap.size = C.B) (hN : RdL icell 1 C.w0 nA nums) (htk : tk ≤ 100000) (hst : st < 18446744073709551616) (ha : At C fr (.blk hb (hatO nA nums.length nc (tk) (st)) :: T) a w) : Calls C.P 8 #[.pointer (some ⟨hb, 0, none⟩), .int .i64 1, .int .i64 0] w fun e w' => ∃ (tk' st' kf : Nat) (l : List Nat) (lA : Option Addr) (lc : Nat) (LA SA : Option Addr) (Lc Sc : Nat), tk' ≤ tk + 20 ∧ st' < 18446744073709551616 ∧ LoafOk l ∧ e = .returned (.agg [.slice LA 1 Lc, .slice SA 1 Sc, .int .i64 (kf : Int), .slice none 0 0].toArray) ∧ At C fr (.blk hb (hatO nA nums.length nc (tk') (st')) :: .row 22 1 LA 1 Lc [.slice lA l.length lc] :: .row 3 1 lA l.length lc (ints l) :: T) a w' := by
  obtain ⟨P, B, w0, N0, ds⟩ := C
  obtain rfl : P = Tryd.prog := hC
  (try dsimp only at hB)
  (try dsimp only at hN)
  refine enter_in (N := 75) [(0, .pointer (some ⟨hb, 0, none⟩)), (1, .int .i64 1), (2, .int .i64 0)] ha Tryd.func8 rfl Tryd.ntmps8 rfl rfl ?_
  refine cod_seq ?_
  refine cod_region ?_
  refine lst_alloc rfl F.ti40 ?_
  intro b6
  refine lst_nil ?_
  refine ex_then ?_
  refine cod_seq ?_
  refine cod_region ?_
  refine lst_move rfl rfl ?_
  refine lst_move rfl rfl ?_
  refine lst_call_pul (X := Nat × Nat) (vs := [_, _]) hb (fun y => hatO nA nums.length nc (tk + 1) (y.1)) (fun y => y.1 < 18446744073709551616 ∧ y.2 ≤ ((3 : Int) : Int).toNat) (fun y => .int .i64 (y.2 : Int)) rfl rfl F.ent6 (fun a w ha => (To_c (C := ⟨Tryd.prog, B, w0, _, _⟩) rfl hB hN (tk := tk) (st := st) (n := (3 : Int)) (by omega) hst (by omega) ha).mono (fun e w' h => by obtain ⟨s', x, h1, h2, h3, h4⟩ := h; exact ⟨(s', x), ⟨h1, h2⟩, h3, h4⟩)) ?_
  rintro ⟨s1, x1⟩ ⟨hs1, hx1⟩
  (try dsimp only at hs1 hx1 ⊢)
  refine lst_lit (vs := [(0, _), (1, _), (2, _), (3, _)]) rfl rfl Tryd.underlying22 F.ti3 rfl rfl rfl ?_
  intro b16
  refine lst_call_pul (X := Nat × Nat) (vs := [_, _]) hb (fun y => hatO nA nums.length nc (tk + 1 + 1) (y.1)) (fun y => y.1 < 18446744073709551616 ∧ y.2 ∈ [0, 1, 1, x1]) (fun y => .int .i64 (y.2 : Int)) rfl rfl F.ent17 (fun a w ha => (One_c (C := ⟨Tryd.prog, B, w0, _, _⟩) rfl hB hN (tk := tk + 1) (st := s1) (A := some ⟨b16, 0, none⟩) (c := 4) (l := [0, 1, 1, x1]) (by omega) hs1 (by simp) (by simp) (Rds.blk (b := b16) (ct := 3) (fun _ => rfl) (by simp [ncell])) ha).mono (fun e w' h => by obtain ⟨s', x, h1, h2, h3, h4⟩ := h; exact ⟨(s', x), ⟨h1, h2⟩, h3, h4⟩)) ?_
  rintro ⟨s2, kf⟩ ⟨hs2, hkf⟩
  (try dsimp only at hs2 hkf ⊢)
  refine lst_struct (vs := [(2, _)]) (l' := [_, _, _, _]) rfl rfl F.ti40 F.pl40 (.cons rfl rfl (.nil _)) rfl ?_
  refine lst_alloc rfl F.ti40 ?_
  intro b7
  refine lst_store rfl rfl F.ti40 rfl ?_
  refine lst_nil ?_
  refine ex_then ?_
  refine cod_seq ?_
  refine cod_seq ?_
  refine cod_region ?_
  refine lst_move rfl rfl ?_
  refine lst_move rfl rfl ?_
  refine lst_call_pul (X := Nat × Int) (vs := [_, _, _]) hb (fun y => hatO nA nums.length nc (tk + 1 + 1 + 1) (y.1)) (fun y => y.1 < 18446744073709551616 ∧ (1 : Int) ≤ y.2 ∧ y.2 ≤ (1 : Int)) (fun y => .int .i64 y.2) rfl rfl F.ent15 (fun a w ha => (From_c (C := ⟨Tryd.prog, B, w0, _, _⟩) rfl hB hN (tk := tk + 1 + 1) (st := s2) (lo := (1 : Int)) (hi := (1 : Int)) (by omega) hs2 (by omega) (by omega) (by omega) ha).mono (fun e w' h => by obtain ⟨s', x, h1, h2, h3, h4, h5⟩ := h; exact ⟨(s', x), ⟨h1, h2, h3⟩, h4, h5⟩)) ?_
  rintro ⟨s3, y1⟩ ⟨hs3, hy1a, hy1b⟩
  (try dsimp only at hs3 hy1a hy1b ⊢)
  obtain rfl : y1 = 1 := by omega
  refine lst_assign rfl rfl ?_
  refine lst_nil ?_
  refine ex_then ?_
  refine cod_block ?_
  refine cod_rounds 1 ?_
  refine cod_seq ?_
  refine cod_seq ?_
  refine cod_region ?_
  refine lst_move rfl rfl ?_
  refine lst_int rfl rfl rfl bin_gtr ?_
  refine lst_nil ?_
  refine ex_then ?_
  refine cod_cond_true rfl ?_
  refine cod_skip ?_
  refine ex_then ?_
  refine cod_seq ?_
  refine cod_block ?_
  refine cod_seq ?_
  refine cod_region ?_
  refine lst_assign rfl rfl ?_
  refine lst_nil ?_
  refine ex_then ?_
  refine cod_seq ?_
  refine cod_region ?_
  refine lst_move rfl rfl ?_
  refine lst_call_pul (X := Nat × Int) (vs := [_, _, _]) hb (fun y => hatO nA nums.length nc (tk + 1 + 1 + 1 + 1) (y.1)) (fun y => y.1 < 18446744073709551616 ∧ (1 : Int) ≤ y.2 ∧ y.2 ≤ (9 : Int)) (fun y => .int .i64 y.2) rfl rfl F.ent15 (fun a w ha => (From_c (C := ⟨Tryd.prog, B, w0, _, _⟩) rfl hB hN (tk := tk + 1 + 1 + 1) (st := s3) (lo := (1 : Int)) (hi := (9 : Int)) (by omega) hs3 (by omega) (by omega) (by omega) ha).mono (fun e w' h => by obtain ⟨s', x, h1, h2, h3, h4, h5⟩ := h; exact ⟨(s', x), ⟨h1, h2, h3⟩, h4, h5⟩)) ?_
  rintro ⟨s4, n0⟩ ⟨hs4, hn0a, hn0b⟩
  (try dsimp only at hs4 hn0a hn0b ⊢)
  obtain ⟨n, rfl⟩ : ∃ n : Nat, n0 = (n : Int) := ⟨n0.toNat, by omega⟩
  refine lst_assign rfl rfl ?_
  refine lst_nil ?_
  refine ex_then ?_
  refine cod_seq ?_
  refine cod_seq ?_
  refine cod_region ?_
  refine lst_move rfl rfl ?_
  refine lst_call_pul (X := Nat × Int) (vs := [_, _, _]) hb (fun y => hatO nA nums.length nc (tk + 1 + 1 + 1 + 1 + 1) (y.1)) (fun y => y.1 < 18446744073709551616 ∧ (1 : Int) ≤ y.2 ∧ y.2 ≤ (4 : Int)) (fun y => .int .i64 y.2) rfl rfl F.ent15 (fun a w ha => (From_c (C := ⟨Tryd.prog, B, w0, _, _⟩) rfl hB hN (tk := tk + 1 + 1 + 1 + 1) (st := s4) (lo := (1 : Int)) (hi := (4 : Int)) (by omega) hs4 (by omega) (by omega) (by omega) ha).mono (fun e w' h => by obtain ⟨s', x, h1, h2, h3, h4, h5⟩ := h; exact ⟨(s', x), ⟨h1, h2, h3⟩, h4, h5⟩)) ?_
  rintro ⟨s5, k0⟩ ⟨hs5, hk0a, hk0b⟩
  (try dsimp only at hs5 hk0a hk0b ⊢)
  obtain ⟨k, rfl⟩ : ∃ k : Nat, k0 = (k : Int) := ⟨k0.toNat, by omega⟩
  refine lst_assign rfl rfl ?_
  refine lst_nil ?_
  refine ex_then ?_
  refine cod_block ?_
  refine cod_row0 22 1 ?_
  refine cod_row0 3 1 ?_
  refine cod_row0 3 1 ?_
  refine cod_loop' (G := Nat × List Nat × Nat × Nat × Nat × Option Addr × Nat) (fun g => g.1 + g.2.1.length = k ∧ LoafP g.2.1 g.2.2.1 ∧ g.2.2.2.1 < 18446744073709551616 ∧ g.2.2.2.2.1 ≤ tk + 5 + g.2.1.length) (fun g => g.1) (fun g => [(0, .pointer (some ⟨hb, 0, none⟩)), (1, .int .i64 1), (2, .int .i64 0), (6, .pointer (some ⟨b6, 0, none⟩)), (7, .pointer (some ⟨b7, 0, none⟩)), (8, .int .i64 1), (9, .slice g.2.2.2.2.2.1 g.2.1.length g.2.2.2.2.2.2), (10, .int .i64 (g.2.2.1 : Int)), (11, .int .i64 (g.1 : Int))]) (fun g => .blk hb (hatO nA nums.length nc (g.2.2.2.2.1) (g.2.2.2.1)) :: .row 3 1 (g.2.2.2.2.2.1) g.2.1.length (g.2.2.2.2.2.2) (ints g.2.1) :: .row 22 1 none 0 0 [] :: .row 3 1 none 0 0 [] :: .blk b7 (.cells [.slice none 0 0, .slice none 0 0, .int .i64 (kf : Int), .slice none 0 0].toArray 40 (0, 0)) :: .blk b6 (.cells [.slice none 0 0, .slice none 0 0, .int .i64 0, .slice none 0 0].toArray 40 (0, 0)) :: T) (⟨k, [], n, s5, tk + 1 + 1 + 1 + 1 + 1, none, 0⟩) ⟨by (try dsimp only [List.length_nil]); omega, loafP_nil (n := n) (by omega) (by omega), hs5, by (try dsimp only [List.length_nil]); omega⟩ (by repeat (first | exact Sub.nil _ | refine Sub.cons rfl ?_)) (by repeat (first | exact Pck.nil _ | exact Pck.refl _ | (apply Pck.cons; focus ((repeat (first | exact Rem.here _ | apply Rem.there)); done)) | refine Pck.skip _ ?_)) ?_
  rintro ⟨j, l, n, st2, tk2, A, c⟩ ⟨hj, hP, hst2, htk2⟩
  (try dsimp only at hj hP hst2 htk2 ⊢)
  refine cod_seq ?_
  refine cod_seq ?_
  refine cod_region ?_
  refine lst_move rfl rfl ?_
  refine lst_int rfl rfl rfl bin_gtr ?_
  refine lst_nil ?_
  refine ex_then ?_
  refine cod_cond_dec rfl (fun hc1 => ?_) (fun hc1 => ?_)
  · skip
    obtain ⟨j, rfl⟩ : ∃ i, j = i + 1 := ⟨j - 1, by omega⟩
    refine cod_skip ?_
    refine ex_then ?_
    refine cod_seq ?_
    refine cod_block ?_
    refine cod_seq ?_
    refine cod_region ?_
    refine lst_move rfl rfl ?_
    refine lst_move rfl rfl ?_
    refine lst_lit (vs := [(0, _)]) rfl rfl Tryd.underlying22 F.ti3 rfl rfl rfl ?_
    intro b36
    refine lst_append rfl rfl rfl Tryd.underlying22 F.ti3 rfl rfl rfl (by unfold maxLen; omega) (by omega) ?_
    intro A3 c3
    refine lst_assign rfl rfl ?_
    refine lst_nil ?_
    refine ex_then ?_
    refine cod_region ?_
    refine lst_move rfl rfl ?_
    refine lst_move rfl rfl ?_
    refine lst_call_pul (X := Nat × Nat) (vs := [_, _]) hb (fun y => hatO nA nums.length nc (tk2 + 1) (y.1)) (fun y => y.1 < 18446744073709551616 ∧ y.2 ≤ ((3 : Int) : Int).toNat) (fun y => .int .i64 (y.2 : Int)) rfl rfl F.ent6 (fun a w ha => (To_c (C := ⟨Tryd.prog, B, w0, _, _⟩) rfl hB hN (tk := tk2) (st := st2) (n := (3 : Int)) (by omega) hst2 (by omega) ha).mono (fun e w' h => by obtain ⟨s', x, h1, h2, h3, h4⟩ := h; exact ⟨(s', x), ⟨h1, h2⟩, h3, h4⟩)) ?_
    rintro ⟨s6, x5⟩ ⟨hs6, hx5⟩
    (try dsimp only at hs6 hx5 ⊢)
    refine lst_int (v := .int .i64 ((n : Int) - (x5 : Int))) rfl rfl rfl (fun w => bin_sub w (wrap_i64' _ (by have := hP.2.1; omega) (by have := hP.2.1; omega))) ?_
    refine lst_max rfl rfl rfl ?_
    rw [show (if (1 : Int) < (n : Int) - (x5 : Int) then (n : Int) - (x5 : Int) else 1) = ((max 1 (n - x5) : Nat) : Int) by split <;> omega]
    refine lst_assign rfl rfl ?_
    refine lst_nil ?_
    refine ex_block_normal ?_
    refine ex_then ?_
    refine cod_region ?_
    refine lst_move rfl rfl ?_
    refine lst_int (v := .int .i64 (j : Int)) rfl rfl rfl (fun w => bin_sub w (by rw [wrap_i64' _ (by omega) (by omega)] <;> omega)) ?_
    refine lst_assign rfl rfl ?_
    refine lst_nil ?_
    have eL : ints l ++ [.int .i64 (n : Int)] = ints (l ++ [n]) := by simp [ints]
    have eN : (l ++ [n]).length = l.length + 1 := by simp
    rw [eL, ← eN]
    refine ex_round' ⟨j, l ++ [n], max 1 (n - x5), s6, tk2 + 1, A3, c3⟩ ⟨by (try dsimp only); omega, hP.snoc x5, hs6, by (try dsimp only); omega⟩ (by (try dsimp only); omega) (by repeat (first | exact Sub.nil _ | refine Sub.cons rfl ?_)) (by repeat (first | exact Pck.nil _ | exact Pck.refl _ | (apply Pck.cons; focus ((repeat (first | exact Rem.here _ | apply Rem.there)); done)) | refine Pck.skip _ ?_))
  · skip
    obtain rfl : j = 0 := by omega
    refine cod_exit ?_
    refine ex_then_exit ?_
    refine ex_then_exit ?_
    refine ex_block_exit ?_
    refine ex_then ?_
    refine cod_ghost (G := Nat × Option Addr × Nat × Option Addr × Nat × Nat) (fun g => g.1 < 18446744073709551616) (fun g => [(0, .pointer (some ⟨hb, 0, none⟩)), (1, .int .i64 1), (2, .int .i64 0), (6, .pointer (some ⟨b6, 0, none⟩)), (7, .pointer (some ⟨b7, 0, none⟩)), (8, .int .i64 1)]) (fun g => .blk hb (hatO nA nums.length nc (tk2 + 1 + 1) (g.1)) :: .row 22 1 g.2.1 1 g.2.2.1 [.slice A l.length c] :: .row 3 1 (A) l.length (c) (ints l) :: .blk b7 (.cells [.slice g.2.1 1 g.2.2.1, .slice g.2.2.2.1 1 g.2.2.2.2.1, .int .i64 (kf : Int), .slice none 0 0].toArray 40 (0, 0)) :: .blk b6 (.cells [.slice none 0 0, .slice none 0 0, .int .i64 0, .slice none 0 0].toArray 40 (0, 0)) :: T) ?_ ?_
    · skip
      refine any_begin [.b b7, .b hb, .r none, .r none] F.follows 18 rfl [false, false, false, false, false, false, false, false, false, false, false, false, false, false, false, false, false, false] rfl ?_
      refine any_take (listed' := [true, false, false, false, false, false, false, false, false, false, false, false, false, false, false, false, false, false].toArray) 0 rfl rfl rfl (by kernel_rfl) (by kernel_rfl) (by kernel_rfl) (by repeat (first | exact List.Sublist.refl _ | exact List.nil_sublist _ | refine List.Sublist.cons_cons _ ?_ | refine List.Sublist.cons _ ?_)) (yld_field_z rfl F.fi40_0 F.ti37) rfl ?_
      refine any_take (listed' := [true, false, true, false, false, false, false, false, false, false, false, false, false, false, false, false, false, false].toArray) 2 rfl rfl rfl (by kernel_rfl) (by kernel_rfl) (by kernel_rfl) (by repeat (first | exact List.Sublist.refl _ | exact List.nil_sublist _ | refine List.Sublist.cons_cons _ ?_ | refine List.Sublist.cons _ ?_)) (yld_move rfl) rfl ?_
      refine any_take (listed' := [true, false, true, false, false, true, false, false, false, false, false, false, false, false, false, false, false, false].toArray) 5 rfl rfl rfl (by kernel_rfl) (by kernel_rfl) (by kernel_rfl) (by repeat (first | exact List.Sublist.refl _ | exact List.nil_sublist _ | refine List.Sublist.cons_cons _ ?_ | refine List.Sublist.cons _ ?_)) (yld_field_z rfl F.fi40_1 F.ti22) rfl ?_
      refine any_take (listed' := [true, false, true, false, false, true, false, true, false, false, false, false, false, false, false, false, false, false].toArray) 7 rfl rfl rfl (by kernel_rfl) (by kernel_rfl) (by kernel_rfl) (by repeat (first | exact List.Sublist.refl _ | exact List.nil_sublist _ | refine List.Sublist.cons_cons _ ?_ | refine List.Sublist.cons _ ?_)) (yld_move rfl) rfl ?_
      refine any_take (listed' := [true, false, true, false, false, true, false, true, true, false, false, false, false, false, false, false, false, false].toArray) 8 rfl rfl rfl (by kernel_rfl) (by kernel_rfl) (by kernel_rfl) (by repeat (first | exact List.Sublist.refl _ | exact List.nil_sublist _ | refine List.Sublist.cons_cons _ ?_ | refine List.Sublist.cons _ ?_)) (yld_move rfl) rfl ?_
      refine any_three (l1 := [true, true, true, false, false, true, false, true, true, false, false, false, false, false, false, false, false, false].toArray) (l2 := [true, false, true, true, false, true, false, true, true, false, false, false, false, false, false, false, false, false].toArray) (l3 := [true, false, true, false, false, true, true, true, true, false, false, false, false, false, false, false, false, false].toArray) 1 3 6 (by kernel_rfl) rfl rfl rfl rfl rfl rfl ?_ ?_ ?_
      · skip
        refine lst_load rfl rfl F.one37 ?_
        refine lst_nil ?_
        refine any_next (by repeat (first | exact List.Sublist.refl _ | exact List.nil_sublist _ | refine List.Sublist.cons_cons _ ?_ | refine List.Sublist.cons _ ?_)) ?_
        refine any_two (l1 := [true, true, true, true, false, true, false, true, true, false, false, false, false, false, false, false, false, false].toArray) (l2 := [true, true, true, false, false, true, true, true, true, false, false, false, false, false, false, false, false, false].toArray) 3 6 (by kernel_rfl) rfl rfl rfl rfl ?_ ?_
        · skip
          refine lst_lit (vs := [(0, _)]) rfl rfl Tryd.underlying37 F.ti22 rfl rfl rfl ?_
          intro b46
          refine lst_nil ?_
          refine any_next (by repeat (first | exact List.Sublist.refl _ | exact List.nil_sublist _ | refine List.Sublist.cons_cons _ ?_ | refine List.Sublist.cons _ ?_)) ?_
          refine any_two (l1 := [true, true, true, true, true, true, false, true, true, false, false, false, false, false, false, false, false, false].toArray) (l2 := [true, true, true, true, false, true, true, true, true, false, false, false, false, false, false, false, false, false].toArray) 4 6 (by kernel_rfl) rfl rfl rfl rfl ?_ ?_
          · skip
            refine lst_append rfl rfl rfl Tryd.underlying37 F.ti22 rfl rfl rfl (by decide) (by decide) ?_
            intro A4 c4
            refine lst_nil ?_
            refine any_next (by repeat (first | exact List.Sublist.refl _ | exact List.nil_sublist _ | refine List.Sublist.cons_cons _ ?_ | refine List.Sublist.cons _ ?_)) ?_
            refine any_two (l1 := [true, true, true, true, true, true, true, true, true, false, false, false, false, false, false, false, false, false].toArray) (l2 := [true, true, true, true, true, true, false, true, true, true, false, false, false, false, false, false, false, false].toArray) 6 9 (by kernel_rfl) rfl rfl rfl rfl ?_ ?_
            · skip
              refine lst_load rfl rfl F.one22 ?_
              refine lst_nil ?_
              refine any_next (by repeat (first | exact List.Sublist.refl _ | exact List.nil_sublist _ | refine List.Sublist.cons_cons _ ?_ | refine List.Sublist.cons _ ?_)) ?_
              refine any_take (listed' := [true, true, true, true, true, true, true, true, true, false, false, false, false, false, true, false, false, false].toArray) 14 rfl rfl rfl (by kernel_rfl) (by kernel_rfl) (by kernel_rfl) (by repeat (first | exact List.Sublist.refl _ | exact List.nil_sublist _ | refine List.Sublist.cons_cons _ ?_ | refine List.Sublist.cons _ ?_)) (yld_field_z rfl F.fi40_0 F.ti37) rfl ?_
              refine any_one (listed' := [true, true, true, true, true, true, true, true, true, true, false, false, false, false, true, false, false, false].toArray) 9 (by kernel_rfl) rfl rfl ?_
              refine lst_call_pul (X := Nat × Nat) (vs := [_, _]) hb (fun y => hatO nA nums.length nc (tk2 + 1) (y.1)) (fun y => y.1 < 18446744073709551616 ∧ y.2 ≤ ((4 : Int) : Int).toNat) (fun y => .int .i64 (y.2 : Int)) rfl rfl F.ent6 (fun a w ha => (To_c (C := ⟨Tryd.prog, B, w0, _, _⟩) rfl hB hN (tk := tk2) (st := st2) (n := (4 : Int)) (by omega) hst2 (by omega) ha).mono (fun e w' h => by obtain ⟨s', x, h1, h2, h3, h4⟩ := h; exact ⟨(s', x), ⟨h1, h2⟩, h3, h4⟩)) ?_
              rintro ⟨s7, x6⟩ ⟨hs7, hx6⟩
              (try dsimp only at hs7 hx6 ⊢)
              refine lst_nil ?_
              refine any_next (by repeat (first | exact List.Sublist.refl _ | exact List.nil_sublist _ | refine List.Sublist.cons_cons _ ?_ | refine List.Sublist.cons _ ?_)) ?_
              refine any_one (listed' := [true, true, true, true, true, true, true, true, true, true, true, false, false, false, true, false, false, false].toArray) 10 (by kernel_rfl) rfl rfl ?_
              refine lst_lit (vs := [(0, _), (1, _), (2, _), (3, _), (4, _)]) rfl rfl Tryd.underlying22 F.ti3 rfl rfl rfl ?_
              intro b53
              refine lst_nil ?_
              refine any_next (by repeat (first | exact List.Sublist.refl _ | exact List.nil_sublist _ | refine List.Sublist.cons_cons _ ?_ | refine List.Sublist.cons _ ?_)) ?_
              refine any_one (listed' := [true, true, true, true, true, true, true, true, true, true, true, true, false, false, true, false, false, false].toArray) 11 (by kernel_rfl) rfl rfl ?_
              refine lst_call_pul (X := Nat × Nat) (vs := [_, _]) hb (fun y => hatO nA nums.length nc (tk2 + 1 + 1) (y.1)) (fun y => y.1 < 18446744073709551616 ∧ y.2 ∈ [0, 1, 2, 2, x6]) (fun y => .int .i64 (y.2 : Int)) rfl rfl F.ent17 (fun a w ha => (One_c (C := ⟨Tryd.prog, B, w0, _, _⟩) rfl hB hN (tk := tk2 + 1) (st := s7) (A := some ⟨b53, 0, none⟩) (c := 5) (l := [0, 1, 2, 2, x6]) (by omega) hs7 (by simp) (by simp) (Rds.blk (b := b53) (ct := 3) (fun _ => rfl) (by simp [ncell])) ha).mono (fun e w' h => by obtain ⟨s', x, h1, h2, h3, h4⟩ := h; exact ⟨(s', x), ⟨h1, h2⟩, h3, h4⟩)) ?_
              rintro ⟨s8, sk⟩ ⟨hs8, hsk⟩
              (try dsimp only at hs8 hsk ⊢)
              refine lst_nil ?_
              refine any_next (by repeat (first | exact List.Sublist.refl _ | exact List.nil_sublist _ | refine List.Sublist.cons_cons _ ?_ | refine List.Sublist.cons _ ?_)) ?_
              refine any_one (listed' := [true, true, true, true, true, true, true, true, true, true, true, true, true, false, true, false, false, false].toArray) 12 (by kernel_rfl) rfl rfl ?_
              refine lst_lit (vs := [(0, _)]) rfl rfl Tryd.underlying22 F.ti3 rfl rfl rfl ?_
              intro b55
              refine lst_nil ?_
              refine any_next (by repeat (first | exact List.Sublist.refl _ | exact List.nil_sublist _ | refine List.Sublist.cons_cons _ ?_ | refine List.Sublist.cons _ ?_)) ?_
              refine any_one (listed' := [true, true, true, true, true, true, true, true, true, true, true, true, true, true, true, false, false, false].toArray) 13 (by kernel_rfl) rfl rfl ?_
              refine lst_append rfl rfl rfl Tryd.underlying22 F.ti3 rfl rfl rfl (by decide) (by decide) ?_
              intro A5 c5
              refine lst_nil ?_
              refine any_next (by repeat (first | exact List.Sublist.refl _ | exact List.nil_sublist _ | refine List.Sublist.cons_cons _ ?_ | refine List.Sublist.cons _ ?_)) ?_
              refine any_one (listed' := [true, true, true, true, true, true, true, true, true, true, true, true, true, true, true, true, false, false].toArray) 15 (by kernel_rfl) rfl rfl ?_
              refine lst_store rfl rfl F.ti37 rfl ?_
              refine lst_nil ?_
              refine any_next (by repeat (first | exact List.Sublist.refl _ | exact List.nil_sublist _ | refine List.Sublist.cons_cons _ ?_ | refine List.Sublist.cons _ ?_)) ?_
              refine any_take (listed' := [true, true, true, true, true, true, true, true, true, true, true, true, true, true, true, true, true, false].toArray) 16 rfl rfl rfl (by kernel_rfl) (by kernel_rfl) (by kernel_rfl) (by repeat (first | exact List.Sublist.refl _ | exact List.nil_sublist _ | refine List.Sublist.cons_cons _ ?_ | refine List.Sublist.cons _ ?_)) (yld_field_z rfl F.fi40_1 F.ti22) rfl ?_
              refine any_one (listed' := [true, true, true, true, true, true, true, true, true, true, true, true, true, true, true, true, true, true].toArray) 17 (by kernel_rfl) rfl rfl ?_
              refine lst_store rfl rfl F.ti22 rfl ?_
              refine lst_nil ?_
              refine any_next (by repeat (first | exact List.Sublist.refl _ | exact List.nil_sublist _ | refine List.Sublist.cons_cons _ ?_ | refine List.Sublist.cons _ ?_)) ?_
              refine any_done rfl (by kernel_rfl) ?_
              exact ex_ghost ⟨s8, A4, c4, A5, c5, 0⟩ hs8 (by repeat (first | exact Sub.nil _ | refine Sub.cons rfl ?_)) (by repeat (first | exact Pck.nil _ | exact Pck.refl _ | (apply Pck.cons; focus ((repeat (first | exact Rem.here _ | apply Rem.there)); done)) | refine Pck.skip _ ?_))
            · skip
              refine lst_call_pul (X := Nat × Nat) (vs := [_, _]) hb (fun y => hatO nA nums.length nc (tk2 + 1) (y.1)) (fun y => y.1 < 18446744073709551616 ∧ y.2 ≤ ((4 : Int) : Int).toNat) (fun y => .int .i64 (y.2 : Int)) rfl rfl F.ent6 (fun a w ha => (To_c (C := ⟨Tryd.prog, B, w0, _, _⟩) rfl hB hN (tk := tk2) (st := st2) (n := (4 : Int)) (by omega) hst2 (by omega) ha).mono (fun e w' h => by obtain ⟨s', x, h1, h2, h3, h4⟩ := h; exact ⟨(s', x), ⟨h1, h2⟩, h3, h4⟩)) ?_
              rintro ⟨s7, x6⟩ ⟨hs7, hx6⟩
              (try dsimp only at hs7 hx6 ⊢)
              refine lst_nil ?_
              refine any_next (by repeat (first | exact List.Sublist.refl _ | exact List.nil_sublist _ | refine List.Sublist.cons_cons _ ?_ | refine List.Sublist.cons _ ?_)) ?_
              refine any_two (l1 := [true, true, true, true, true, true, true, true, true, true, false, false, false, false, false, false, false, false].toArray) (l2 := [true, true, true, true, true, true, false, true, true, true, true, false, false, false, false, false, false, false].toArray) 6 10 (by kernel_rfl) rfl rfl rfl rfl ?_ ?_
              · skip
                refine lst_load rfl rfl F.one22 ?_
                refine lst_nil ?_
                refine any_next (by repeat (first | exact List.Sublist.refl _ | exact List.nil_sublist _ | refine List.Sublist.cons_cons _ ?_ | refine List.Sublist.cons _ ?_)) ?_
                refine any_take (listed' := [true, true, true, true, true, true, true, true, true, true, false, false, false, false, true, false, false, false].toArray) 14 rfl rfl rfl (by kernel_rfl) (by kernel_rfl) (by kernel_rfl) (by repeat (first | exact List.Sublist.refl _ | exact List.nil_sublist _ | refine List.Sublist.cons_cons _ ?_ | refine List.Sublist.cons _ ?_)) (yld_field_z rfl F.fi40_0 F.ti37) rfl ?_
                refine any_one (listed' := [true, true, true, true, true, true, true, true, true, true, true, false, false, false, true, false, false, false].toArray) 10 (by kernel_rfl) rfl rfl ?_
                refine lst_lit (vs := [(0, _), (1, _), (2, _), (3, _), (4, _)]) rfl rfl Tryd.underlying22 F.ti3 rfl rfl rfl ?_
                intro b53
                refine lst_nil ?_
                refine any_next (by repeat (first | exact List.Sublist.refl _ | exact List.nil_sublist _ | refine List.Sublist.cons_cons _ ?_ | refine List.Sublist.cons _ ?_)) ?_
                refine any_one (listed' := [true, true, true, true, true, true, true, true, true, true, true, true, false, false, true, false, false, false].toArray) 11 (by kernel_rfl) rfl rfl ?_
                refine lst_call_pul (X := Nat × Nat) (vs := [_, _]) hb (fun y => hatO nA nums.length nc (tk2 + 1 + 1) (y.1)) (fun y => y.1 < 18446744073709551616 ∧ y.2 ∈ [0, 1, 2, 2, x6]) (fun y => .int .i64 (y.2 : Int)) rfl rfl F.ent17 (fun a w ha => (One_c (C := ⟨Tryd.prog, B, w0, _, _⟩) rfl hB hN (tk := tk2 + 1) (st := s7) (A := some ⟨b53, 0, none⟩) (c := 5) (l := [0, 1, 2, 2, x6]) (by omega) hs7 (by simp) (by simp) (Rds.blk (b := b53) (ct := 3) (fun _ => rfl) (by simp [ncell])) ha).mono (fun e w' h => by obtain ⟨s', x, h1, h2, h3, h4⟩ := h; exact ⟨(s', x), ⟨h1, h2⟩, h3, h4⟩)) ?_
                rintro ⟨s8, sk⟩ ⟨hs8, hsk⟩
                (try dsimp only at hs8 hsk ⊢)
                refine lst_nil ?_
                refine any_next (by repeat (first | exact List.Sublist.refl _ | exact List.nil_sublist _ | refine List.Sublist.cons_cons _ ?_ | refine List.Sublist.cons _ ?_)) ?_
                refine any_one (listed' := [true, true, true, true, true, true, true, true, true, true, true, true, true, false, true, false, false, false].toArray) 12 (by kernel_rfl) rfl rfl ?_
                refine lst_lit (vs := [(0, _)]) rfl rfl Tryd.underlying22 F.ti3 rfl rfl rfl ?_
                intro b55
                refine lst_nil ?_
                refine any_next (by repeat (first | exact List.Sublist.refl _ | exact List.nil_sublist _ | refine List.Sublist.cons_cons _ ?_ | refine List.Sublist.cons _ ?_)) ?_
                refine any_one (listed' := [true, true, true, true, true, true, true, true, true, true, true, true, true, true, true, false, false, false].toArray) 13 (by kernel_rfl) rfl rfl ?_
                refine lst_append rfl rfl rfl Tryd.underlying22 F.ti3 rfl rfl rfl (by decide) (by decide) ?_
                intro A5 c5
                refine lst_nil ?_
                refine any_next (by repeat (first | exact List.Sublist.refl _ | exact List.nil_sublist _ | refine List.Sublist.cons_cons _ ?_ | refine List.Sublist.cons _ ?_)) ?_
                refine any_one (listed' := [true, true, true, true, true, true, true, true, true, true, true, true, true, true, true, true, false, false].toArray) 15 (by kernel_rfl) rfl rfl ?_
                refine lst_store rfl rfl F.ti37 rfl ?_
                refine lst_nil ?_
                refine any_next (by repeat (first | exact List.Sublist.refl _ | exact List.nil_sublist _ | refine List.Sublist.cons_cons _ ?_ | refine List.Sublist.cons _ ?_)) ?_
                refine any_take (listed' := [true, true, true, true, true, true, true, true, true, true, true, true, true, true, true, true, true, false].toArray) 16 rfl rfl rfl (by kernel_rfl) (by kernel_rfl) (by kernel_rfl) (by repeat (first | exact List.Sublist.refl _ | exact List.nil_sublist _ | refine List.Sublist.cons_cons _ ?_ | refine List.Sublist.cons _ ?_)) (yld_field_z rfl F.fi40_1 F.ti22) rfl ?_
                refine any_one (listed' := [true, true, true, true, true, true, true, true, true, true, true, true, true, true, true, true, true, true].toArray) 17 (by kernel_rfl) rfl rfl ?_
                refine lst_store rfl rfl F.ti22 rfl ?_
                refine lst_nil ?_
                refine any_next (by repeat (first | exact List.Sublist.refl _ | exact List.nil_sublist _ | refine List.Sublist.cons_cons _ ?_ | refine List.Sublist.cons _ ?_)) ?_
                refine any_done rfl (by kernel_rfl) ?_
                exact ex_ghost ⟨s8, A4, c4, A5, c5, 0⟩ hs8 (by repeat (first | exact Sub.nil _ | refine Sub.cons rfl ?_)) (by repeat (first | exact Pck.nil _ | exact Pck.refl _ | (apply Pck.cons; focus ((repeat (first | exact Rem.here _ | apply Rem.there)); done)) | refine Pck.skip _ ?_))
              · skip
                refine lst_lit (vs := [(0, _), (1, _), (2, _), (3, _), (4, _)]) rfl rfl Tryd.underlying22 F.ti3 rfl rfl rfl ?_
                intro b53
                refine lst_nil ?_
                refine any_next (by repeat (first | exact List.Sublist.refl _ | exact List.nil_sublist _ | refine List.Sublist.cons_cons _ ?_ | refine List.Sublist.cons _ ?_)) ?_
                refine any_two (l1 := [true, true, true, true, true, true, true, true, true, true, true, false, false, false, false, false, false, false].toArray) (l2 := [true, true, true, true, true, true, false, true, true, true, true, true, false, false, false, false, false, false].toArray) 6 11 (by kernel_rfl) rfl rfl rfl rfl ?_ ?_
                · skip
                  refine lst_load rfl rfl F.one22 ?_
                  refine lst_nil ?_
                  refine any_next (by repeat (first | exact List.Sublist.refl _ | exact List.nil_sublist _ | refine List.Sublist.cons_cons _ ?_ | refine List.Sublist.cons _ ?_)) ?_
                  refine any_take (listed' := [true, true, true, true, true, true, true, true, true, true, true, false, false, false, true, false, false, false].toArray) 14 rfl rfl rfl (by kernel_rfl) (by kernel_rfl) (by kernel_rfl) (by repeat (first | exact List.Sublist.refl _ | exact List.nil_sublist _ | refine List.Sublist.cons_cons _ ?_ | refine List.Sublist.cons _ ?_)) (yld_field_z rfl F.fi40_0 F.ti37) rfl ?_
                  refine any_one (listed' := [true, true, true, true, true, true, true, true, true, true, true, true, false, false, true, false, false, false].toArray) 11 (by kernel_rfl) rfl rfl ?_
                  refine lst_call_pul (X := Nat × Nat) (vs := [_, _]) hb (fun y => hatO nA nums.length nc (tk2 + 1 + 1) (y.1)) (fun y => y.1 < 18446744073709551616 ∧ y.2 ∈ [0, 1, 2, 2, x6]) (fun y => .int .i64 (y.2 : Int)) rfl rfl F.ent17 (fun a w ha => (One_c (C := ⟨Tryd.prog, B, w0, _, _⟩) rfl hB hN (tk := tk2 + 1) (st := s7) (A := some ⟨b53, 0, none⟩) (c := 5) (l := [0, 1, 2, 2, x6]) (by omega) hs7 (by simp) (by simp) (Rds.blk (b := b53) (ct := 3) (fun _ => rfl) (by simp [ncell])) ha).mono (fun e w' h => by obtain ⟨s', x, h1, h2, h3, h4⟩ := h; exact ⟨(s', x), ⟨h1, h2⟩, h3, h4⟩)) ?_
                  rintro ⟨s8, sk⟩ ⟨hs8, hsk⟩
                  (try dsimp only at hs8 hsk ⊢)
                  refine lst_nil ?_
                  refine any_next (by repeat (first | exact List.Sublist.refl _ | exact List.nil_sublist _ | refine List.Sublist.cons_cons _ ?_ | refine List.Sublist.cons _ ?_)) ?_
                  refine any_one (listed' := [true, true, true, true, true, true, true, true, true, true, true, true, true, false, true, false, false, false].toArray) 12 (by kernel_rfl) rfl rfl ?_
                  refine lst_lit (vs := [(0, _)]) rfl rfl Tryd.underlying22 F.ti3 rfl rfl rfl ?_
                  intro b55
                  refine lst_nil ?_
                  refine any_next (by repeat (first | exact List.Sublist.refl _ | exact List.nil_sublist _ | refine List.Sublist.cons_cons _ ?_ | refine List.Sublist.cons _ ?_)) ?_
                  refine any_one (listed' := [true, true, true, true, true, true, true, true, true, true, true, true, true, true, true, false, false, false].toArray) 13 (by kernel_rfl) rfl rfl ?_
                  refine lst_append rfl rfl rfl Tryd.underlying22 F.ti3 rfl rfl rfl (by decide) (by decide) ?_
                  intro A5 c5
                  refine lst_nil ?_
                  refine any_next (by repeat (first | exact List.Sublist.refl _ | exact List.nil_sublist _ | refine List.Sublist.cons_cons _ ?_ | refine List.Sublist.cons _ ?_)) ?_
                  refine any_one (listed' := [true, true, true, true, true, true, true, true, true, true, true, true, true, true, true, true, false, false].toArray) 15 (by kernel_rfl) rfl rfl ?_
                  refine lst_store rfl rfl F.ti37 rfl ?_
                  refine lst_nil ?_
                  refine any_next (by repeat (first | exact List.Sublist.refl _ | exact List.nil_sublist _ | refine List.Sublist.cons_cons _ ?_ | refine List.Sublist.cons _ ?_)) ?_
                  refine any_take (listed' := [true, true, true, true, true, true, true, true, true, true, true, true, true, true, true, true, true, false].toArray) 16 rfl rfl rfl (by kernel_rfl) (by kernel_rfl) (by kernel_rfl) (by repeat (first | exact List.Sublist.refl _ | exact List.nil_sublist _ | refine List.Sublist.cons_cons _ ?_ | refine List.Sublist.cons _ ?_)) (yld_field_z rfl F.fi40_1 F.ti22) rfl ?_
                  refine any_one (listed' := [true, true, true, true, true, true, true, true, true, true, true, true, true, true, true, true, true, true].toArray) 17 (by kernel_rfl) rfl rfl ?_
                  refine lst_store rfl rfl F.ti22 rfl ?_
                  refine lst_nil ?_
                  refine any_next (by repeat (first | exact List.Sublist.refl _ | exact List.nil_sublist _ | refine List.Sublist.cons_cons _ ?_ | refine List.Sublist.cons _ ?_)) ?_
                  refine any_done rfl (by kernel_rfl) ?_
                  exact ex_ghost ⟨s8, A4, c4, A5, c5, 0⟩ hs8 (by repeat (first | exact Sub.nil _ | refine Sub.cons rfl ?_)) (by repeat (first | exact Pck.nil _ | exact Pck.refl _ | (apply Pck.cons; focus ((repeat (first | exact Rem.here _ | apply Rem.there)); done)) | refine Pck.skip _ ?_))
                · skip
                  refine lst_call_pul (X := Nat × Nat) (vs := [_, _]) hb (fun y => hatO nA nums.length nc (tk2 + 1 + 1) (y.1)) (fun y => y.1 < 18446744073709551616 ∧ y.2 ∈ [0, 1, 2, 2, x6]) (fun y => .int .i64 (y.2 : Int)) rfl rfl F.ent17 (fun a w ha => (One_c (C := ⟨Tryd.prog, B, w0, _, _⟩) rfl hB hN (tk := tk2 + 1) (st := s7) (A := some ⟨b53, 0, none⟩) (c := 5) (l := [0, 1, 2, 2, x6]) (by omega) hs7 (by simp) (by simp) (Rds.blk (b := b53) (ct := 3) (fun _ => rfl) (by simp [ncell])) ha).mono (fun e w' h => by obtain ⟨s', x, h1, h2, h3, h4⟩ := h; exact ⟨(s', x), ⟨h1, h2⟩, h3, h4⟩)) ?_
                  rintro ⟨s8, sk⟩ ⟨hs8, hsk⟩
                  (try dsimp only at hs8 hsk ⊢)
                  refine lst_nil ?_
                  refine any_next (by repeat (first | exact List.Sublist.refl _ | exact List.nil_sublist _ | refine List.Sublist.cons_cons _ ?_ | refine List.Sublist.cons _ ?_)) ?_
                  refine any_two (l1 := [true, true, true, true, true, true, true, true, true, true, true, true, false, false, false, false, false, false].toArray) (l2 := [true, true, true, true, true, true, false, true, true, true, true, true, true, false, false, false, false, false].toArray) 6 12 (by kernel_rfl) rfl rfl rfl rfl ?_ ?_
                  · skip
                    refine lst_load rfl rfl F.one22 ?_
                    refine lst_nil ?_
                    refine any_next (by repeat (first | exact List.Sublist.refl _ | exact List.nil_sublist _ | refine List.Sublist.cons_cons _ ?_ | refine List.Sublist.cons _ ?_)) ?_
                    refine any_take (listed' := [true, true, true, true, true, true, true, true, true, true, true, true, false, false, true, false, false, false].toArray) 14 rfl rfl rfl (by kernel_rfl) (by kernel_rfl) (by kernel_rfl) (by repeat (first | exact List.Sublist.refl _ | exact List.nil_sublist _ | refine List.Sublist.cons_cons _ ?_ | refine List.Sublist.cons _ ?_)) (yld_field_z rfl F.fi40_0 F.ti37) rfl ?_
                    refine any_one (listed' := [true, true, true, true, true, true, true, true, true, true, true, true, true, false, true, false, false, false].toArray) 12 (by kernel_rfl) rfl rfl ?_
                    refine lst_lit (vs := [(0, _)]) rfl rfl Tryd.underlying22 F.ti3 rfl rfl rfl ?_
                    intro b55
                    refine lst_nil ?_
                    refine any_next (by repeat (first | exact List.Sublist.refl _ | exact List.nil_sublist _ | refine List.Sublist.cons_cons _ ?_ | refine List.Sublist.cons _ ?_)) ?_
                    refine any_one (listed' := [true, true, true, true, true, true, true, true, true, true, true, true, true, true, true, false, false, false].toArray) 13 (by kernel_rfl) rfl rfl ?_
                    refine lst_append rfl rfl rfl Tryd.underlying22 F.ti3 rfl rfl rfl (by decide) (by decide) ?_
                    intro A5 c5
                    refine lst_nil ?_
                    refine any_next (by repeat (first | exact List.Sublist.refl _ | exact List.nil_sublist _ | refine List.Sublist.cons_cons _ ?_ | refine List.Sublist.cons _ ?_)) ?_
                    refine any_one (listed' := [true, true, true, true, true, true, true, true, true, true, true, true, true, true, true, true, false, false].toArray) 15 (by kernel_rfl) rfl rfl ?_
                    refine lst_store rfl rfl F.ti37 rfl ?_
                    refine lst_nil ?_
                    refine any_next (by repeat (first | exact List.Sublist.refl _ | exact List.nil_sublist _ | refine List.Sublist.cons_cons _ ?_ | refine List.Sublist.cons _ ?_)) ?_
                    refine any_take (listed' := [true, true, true, true, true, true, true, true, true, true, true, true, true, true, true, true, true, false].toArray) 16 rfl rfl rfl (by kernel_rfl) (by kernel_rfl) (by kernel_rfl) (by repeat (first | exact List.Sublist.refl _ | exact List.nil_sublist _ | refine List.Sublist.cons_cons _ ?_ | refine List.Sublist.cons _ ?_)) (yld_field_z rfl F.fi40_1 F.ti22) rfl ?_
                    refine any_one (listed' := [true, true, true, true, true, true, true, true, true, true, true, true, true, true, true, true, true, true].toArray) 17 (by kernel_rfl) rfl rfl ?_
                    refine lst_store rfl rfl F.ti22 rfl ?_
                    refine lst_nil ?_
                    refine any_next (by repeat (first | exact List.Sublist.refl _ | exact List.nil_sublist _ | refine List.Sublist.cons_cons _ ?_ | refine List.Sublist.cons _ ?_)) ?_
                    refine any_done rfl (by kernel_rfl) ?_
                    exact ex_ghost ⟨s8, A4, c4, A5, c5, 0⟩ hs8 (by repeat (first | exact Sub.nil _ | refine Sub.cons rfl ?_)) (by repeat (first | exact Pck.nil _ | exact Pck.refl _ | (apply Pck.cons; focus ((repeat (first | exact Rem.here _ | apply Rem.there)); done)) | refine Pck.skip _ ?_))
                  · skip
                    refine lst_lit (vs := [(0, _)]) rfl rfl Tryd.underlying22 F.ti3 rfl rfl rfl ?_
                    intro b55
                    refine lst_nil ?_
                    refine any_next (by repeat (first | exact List.Sublist.refl _ | exact List.nil_sublist _ | refine List.Sublist.cons_cons _ ?_ | refine List.Sublist.cons _ ?_)) ?_
                    refine any_one (listed' := [true, true, true, true, true, true, true, true, true, true, true, true, true, false, false, false, false, false].toArray) 6 (by kernel_rfl) rfl rfl ?_
                    refine lst_load rfl rfl F.one22 ?_
                    refine lst_nil ?_
                    refine any_next (by repeat (first | exact List.Sublist.refl _ | exact List.nil_sublist _ | refine List.Sublist.cons_cons _ ?_ | refine List.Sublist.cons _ ?_)) ?_
                    refine any_take (listed' := [true, true, true, true, true, true, true, true, true, true, true, true, true, false, true, false, false, false].toArray) 14 rfl rfl rfl (by kernel_rfl) (by kernel_rfl) (by kernel_rfl) (by repeat (first | exact List.Sublist.refl _ | exact List.nil_sublist _ | refine List.Sublist.cons_cons _ ?_ | refine List.Sublist.cons _ ?_)) (yld_field_z rfl F.fi40_0 F.ti37) rfl ?_
                    refine any_one (listed' := [true, true, true, true, true, true, true, true, true, true, true, true, true, true, true, false, false, false].toArray) 13 (by kernel_rfl) rfl rfl ?_
                    refine lst_append rfl rfl rfl Tryd.underlying22 F.ti3 rfl rfl rfl (by decide) (by decide) ?_
                    intro A5 c5
                    refine lst_nil ?_
                    refine any_next (by repeat (first | exact List.Sublist.refl _ | exact List.nil_sublist _ | refine List.Sublist.cons_cons _ ?_ | refine List.Sublist.cons _ ?_)) ?_
                    refine any_one (listed' := [true, true, true, true, true, true, true, true, true, true, true, true, true, true, true, true, false, false].toArray) 15 (by kernel_rfl) rfl rfl ?_
                    refine lst_store rfl rfl F.ti37 rfl ?_
                    refine lst_nil ?_
                    refine any_next (by repeat (first | exact List.Sublist.refl _ | exact List.nil_sublist _ | refine List.Sublist.cons_cons _ ?_ | refine List.Sublist.cons _ ?_)) ?_
                    refine any_take (listed' := [true, true, true, true, true, true, true, true, true, true, true, true, true, true, true, true, true, false].toArray) 16 rfl rfl rfl (by kernel_rfl) (by kernel_rfl) (by kernel_rfl) (by repeat (first | exact List.Sublist.refl _ | exact List.nil_sublist _ | refine List.Sublist.cons_cons _ ?_ | refine List.Sublist.cons _ ?_)) (yld_field_z rfl F.fi40_1 F.ti22) rfl ?_
                    refine any_one (listed' := [true, true, true, true, true, true, true, true, true, true, true, true, true, true, true, true, true, true].toArray) 17 (by kernel_rfl) rfl rfl ?_
                    refine lst_store rfl rfl F.ti22 rfl ?_
                    refine lst_nil ?_
                    refine any_next (by repeat (first | exact List.Sublist.refl _ | exact List.nil_sublist _ | refine List.Sublist.cons_cons _ ?_ | refine List.Sublist.cons _ ?_)) ?_
                    refine any_done rfl (by kernel_rfl) ?_
                    exact ex_ghost ⟨s8, A4, c4, A5, c5, 0⟩ hs8 (by repeat (first | exact Sub.nil _ | refine Sub.cons rfl ?_)) (by repeat (first | exact Pck.nil _ | exact Pck.refl _ | (apply Pck.cons; focus ((repeat (first | exact Rem.here _ | apply Rem.there)); done)) | refine Pck.skip _ ?_))
          · skip
            refine lst_load rfl rfl F.one22 ?_
            refine lst_nil ?_
            refine any_next (by repeat (first | exact List.Sublist.refl _ | exact List.nil_sublist _ | refine List.Sublist.cons_cons _ ?_ | refine List.Sublist.cons _ ?_)) ?_
            refine any_one (listed' := [true, true, true, true, true, true, true, true, true, false, false, false, false, false, false, false, false, false].toArray) 4 (by kernel_rfl) rfl rfl ?_
            refine lst_append rfl rfl rfl Tryd.underlying37 F.ti22 rfl rfl rfl (by decide) (by decide) ?_
            intro A4 c4
            refine lst_nil ?_
            refine any_next (by repeat (first | exact List.Sublist.refl _ | exact List.nil_sublist _ | refine List.Sublist.cons_cons _ ?_ | refine List.Sublist.cons _ ?_)) ?_
            refine any_take (listed' := [true, true, true, true, true, true, true, true, true, false, false, false, false, false, true, false, false, false].toArray) 14 rfl rfl rfl (by kernel_rfl) (by kernel_rfl) (by kernel_rfl) (by repeat (first | exact List.Sublist.refl _ | exact List.nil_sublist _ | refine List.Sublist.cons_cons _ ?_ | refine List.Sublist.cons _ ?_)) (yld_field_z rfl F.fi40_0 F.ti37) rfl ?_
            refine any_one (listed' := [true, true, true, true, true, true, true, true, true, true, false, false, false, false, true, false, false, false].toArray) 9 (by kernel_rfl) rfl rfl ?_
            refine lst_call_pul (X := Nat × Nat) (vs := [_, _]) hb (fun y => hatO nA nums.length nc (tk2 + 1) (y.1)) (fun y => y.1 < 18446744073709551616 ∧ y.2 ≤ ((4 : Int) : Int).toNat) (fun y => .int .i64 (y.2 : Int)) rfl rfl F.ent6 (fun a w ha => (To_c (C := ⟨Tryd.prog, B, w0, _, _⟩) rfl hB hN (tk := tk2) (st := st2) (n := (4 : Int)) (by omega) hst2 (by omega) ha).mono (fun e w' h => by obtain ⟨s', x, h1, h2, h3, h4⟩ := h; exact ⟨(s', x), ⟨h1, h2⟩, h3, h4⟩)) ?_
            rintro ⟨s7, x6⟩ ⟨hs7, hx6⟩
            (try dsimp only at hs7 hx6 ⊢)
            refine lst_nil ?_
            refine any_next (by repeat (first | exact List.Sublist.refl _ | exact List.nil_sublist _ | refine List.Sublist.cons_cons _ ?_ | refine List.Sublist.cons _ ?_)) ?_
            refine any_one (listed' := [true, true, true, true, true, true, true, true, true, true, true, false, false, false, true, false, false, false].toArray) 10 (by kernel_rfl) rfl rfl ?_
            refine lst_lit (vs := [(0, _), (1, _), (2, _), (3, _), (4, _)]) rfl rfl Tryd.underlying22 F.ti3 rfl rfl rfl ?_
            intro b53
            refine lst_nil ?_
            refine any_next (by repeat (first | exact List.Sublist.refl _ | exact List.nil_sublist _ | refine List.Sublist.cons_cons _ ?_ | refine List.Sublist.cons _ ?_)) ?_
            refine any_one (listed' := [true, true, true, true, true, true, true, true, true, true, true, true, false, false, true, false, false, false].toArray) 11 (by kernel_rfl) rfl rfl ?_
            refine lst_call_pul (X := Nat × Nat) (vs := [_, _]) hb (fun y => hatO nA nums.length nc (tk2 + 1 + 1) (y.1)) (fun y => y.1 < 18446744073709551616 ∧ y.2 ∈ [0, 1, 2, 2, x6]) (fun y => .int .i64 (y.2 : Int)) rfl rfl F.ent17 (fun a w ha => (One_c (C := ⟨Tryd.prog, B, w0, _, _⟩) rfl hB hN (tk := tk2 + 1) (st := s7) (A := some ⟨b53, 0, none⟩) (c := 5) (l := [0, 1, 2, 2, x6]) (by omega) hs7 (by simp) (by simp) (Rds.blk (b := b53) (ct := 3) (fun _ => rfl) (by simp [ncell])) ha).mono (fun e w' h => by obtain ⟨s', x, h1, h2, h3, h4⟩ := h; exact ⟨(s', x), ⟨h1, h2⟩, h3, h4⟩)) ?_
            rintro ⟨s8, sk⟩ ⟨hs8, hsk⟩
            (try dsimp only at hs8 hsk ⊢)
            refine lst_nil ?_
            refine any_next (by repeat (first | exact List.Sublist.refl _ | exact List.nil_sublist _ | refine List.Sublist.cons_cons _ ?_ | refine List.Sublist.cons _ ?_)) ?_
            refine any_one (listed' := [true, true, true, true, true, true, true, true, true, true, true, true, true, false, true, false, false, false].toArray) 12 (by kernel_rfl) rfl rfl ?_
            refine lst_lit (vs := [(0, _)]) rfl rfl Tryd.underlying22 F.ti3 rfl rfl rfl ?_
            intro b55
            refine lst_nil ?_
            refine any_next (by repeat (first | exact List.Sublist.refl _ | exact List.nil_sublist _ | refine List.Sublist.cons_cons _ ?_ | refine List.Sublist.cons _ ?_)) ?_
            refine any_one (listed' := [true, true, true, true, true, true, true, true, true, true, true, true, true, true, true, false, false, false].toArray) 13 (by kernel_rfl) rfl rfl ?_
            refine lst_append rfl rfl rfl Tryd.underlying22 F.ti3 rfl rfl rfl (by decide) (by decide) ?_
            intro A5 c5
            refine lst_nil ?_
            refine any_next (by repeat (first | exact List.Sublist.refl _ | exact List.nil_sublist _ | refine List.Sublist.cons_cons _ ?_ | refine List.Sublist.cons _ ?_)) ?_
            refine any_one (listed' := [true, true, true, true, true, true, true, true, true, true, true, true, true, true, true, true, false, false].toArray) 15 (by kernel_rfl) rfl rfl ?_
            refine lst_store rfl rfl F.ti37 rfl ?_
            refine lst_nil ?_
            refine any_next (by repeat (first | exact List.Sublist.refl _ | exact List.nil_sublist _ | refine List.Sublist.cons_cons _ ?_ | refine List.Sublist.cons _ ?_)) ?_
            refine any_take (listed' := [true, true, true, true, true, true, true, true, true, true, true, true, true, true, true, true, true, false].toArray) 16 rfl rfl rfl (by kernel_rfl) (by kernel_rfl) (by kernel_rfl) (by repeat (first | exact List.Sublist.refl _ | exact List.nil_sublist _ | refine List.Sublist.cons_cons _ ?_ | refine List.Sublist.cons _ ?_)) (yld_field_z rfl F.fi40_1 F.ti22) rfl ?_
            refine any_one (listed' := [true, true, true, true, true, true, true, true, true, true, true, true, true, true, true, true, true, true].toArray) 17 (by kernel_rfl) rfl rfl ?_
            refine lst_store rfl rfl F.ti22 rfl ?_
            refine lst_nil ?_
            refine any_next (by repeat (first | exact List.Sublist.refl _ | exact List.nil_sublist _ | refine List.Sublist.cons_cons _ ?_ | refine List.Sublist.cons _ ?_)) ?_
            refine any_done rfl (by kernel_rfl) ?_
            exact ex_ghost ⟨s8, A4, c4, A5, c5, 0⟩ hs8 (by repeat (first | exact Sub.nil _ | refine Sub.cons rfl ?_)) (by repeat (first | exact Pck.nil _ | exact Pck.refl _ | (apply Pck.cons; focus ((repeat (first | exact Rem.here _ | apply Rem.there)); done)) | refine Pck.skip _ ?_))
        · skip
          refine lst_load rfl rfl F.one22 ?_
          refine lst_nil ?_
          refine any_next (by repeat (first | exact List.Sublist.refl _ | exact List.nil_sublist _ | refine List.Sublist.cons_cons _ ?_ | refine List.Sublist.cons _ ?_)) ?_
          refine any_one (listed' := [true, true, true, true, false, true, true, true, true, false, false, false, false, false, false, false, false, false].toArray) 3 (by kernel_rfl) rfl rfl ?_
          refine lst_lit (vs := [(0, _)]) rfl rfl Tryd.underlying37 F.ti22 rfl rfl rfl ?_
          intro b46
          refine lst_nil ?_
          refine any_next (by repeat (first | exact List.Sublist.refl _ | exact List.nil_sublist _ | refine List.Sublist.cons_cons _ ?_ | refine List.Sublist.cons _ ?_)) ?_
          refine any_one (listed' := [true, true, true, true, true, true, true, true, true, false, false, false, false, false, false, false, false, false].toArray) 4 (by kernel_rfl) rfl rfl ?_
          refine lst_append rfl rfl rfl Tryd.underlying37 F.ti22 rfl rfl rfl (by decide) (by decide) ?_
          intro A4 c4
          refine lst_nil ?_
          refine any_next (by repeat (first | exact List.Sublist.refl _ | exact List.nil_sublist _ | refine List.Sublist.cons_cons _ ?_ | refine List.Sublist.cons _ ?_)) ?_
          refine any_take (listed' := [true, true, true, true, true, true, true, true, true, false, false, false, false, false, true, false, false, false].toArray) 14 rfl rfl rfl (by kernel_rfl) (by kernel_rfl) (by kernel_rfl) (by repeat (first | exact List.Sublist.refl _ | exact List.nil_sublist _ | refine List.Sublist.cons_cons _ ?_ | refine List.Sublist.cons _ ?_)) (yld_field_z rfl F.fi40_0 F.ti37) rfl ?_
          refine any_one (listed' := [true, true, true, true, true, true, true, true, true, true, false, false, false, false, true, false, false, false].toArray) 9 (by kernel_rfl) rfl rfl ?_
          refine lst_call_pul (X := Nat × Nat) (vs := [_, _]) hb (fun y => hatO nA nums.length nc (tk2 + 1) (y.1)) (fun y => y.1 < 18446744073709551616 ∧ y.2 ≤ ((4 : Int) : Int).toNat) (fun y => .int .i64 (y.2 : Int)) rfl rfl F.ent6 (fun a w ha => (To_c (C := ⟨Tryd.prog, B, w0, _, _⟩) rfl hB hN (tk := tk2) (st := st2) (n := (4 : Int)) (by omega) hst2 (by omega) ha).mono (fun e w' h => by obtain ⟨s', x, h1, h2, h3, h4⟩ := h; exact ⟨(s', x), ⟨h1, h2⟩, h3, h4⟩)) ?_
          rintro ⟨s7, x6⟩ ⟨hs7, hx6⟩
          (try dsimp only at hs7 hx6 ⊢)
          refine lst_nil ?_
          refine any_next (by repeat (first | exact List.Sublist.refl _ | exact List.nil_sublist _ | refine List.Sublist.cons_cons _ ?_ | refine List.Sublist.cons _ ?_)) ?_
          refine any_one (listed' := [true, true, true, true, true, true, true, true, true, true, true, false, false, false, true, false, false, false].toArray) 10 (by kernel_rfl) rfl rfl ?_
          refine lst_lit (vs := [(0, _), (1, _), (2, _), (3, _), (4, _)]) rfl rfl Tryd.underlying22 F.ti3 rfl rfl rfl ?_
          intro b53
          refine lst_nil ?_
          refine any_next (by repeat (first | exact List.Sublist.refl _ | exact List.nil_sublist _ | refine List.Sublist.cons_cons _ ?_ | refine List.Sublist.cons _ ?_)) ?_
          refine any_one (listed' := [true, true, true, true, true, true, true, true, true, true, true, true, false, false, true, false, false, false].toArray) 11 (by kernel_rfl) rfl rfl ?_
          refine lst_call_pul (X := Nat × Nat) (vs := [_, _]) hb (fun y => hatO nA nums.length nc (tk2 + 1 + 1) (y.1)) (fun y => y.1 < 18446744073709551616 ∧ y.2 ∈ [0, 1, 2, 2, x6]) (fun y => .int .i64 (y.2 : Int)) rfl rfl F.ent17 (fun a w ha => (One_c (C := ⟨Tryd.prog, B, w0, _, _⟩) rfl hB hN (tk := tk2 + 1) (st := s7) (A := some ⟨b53, 0, none⟩) (c := 5) (l := [0, 1, 2, 2, x6]) (by omega) hs7 (by simp) (by simp) (Rds.blk (b := b53) (ct := 3) (fun _ => rfl) (by simp [ncell])) ha).mono (fun e w' h => by obtain ⟨s', x, h1, h2, h3, h4⟩ := h; exact ⟨(s', x), ⟨h1, h2⟩, h3, h4⟩)) ?_
          rintro ⟨s8, sk⟩ ⟨hs8, hsk⟩
          (try dsimp only at hs8 hsk ⊢)
          refine lst_nil ?_
          refine any_next (by repeat (first | exact List.Sublist.refl _ | exact List.nil_sublist _ | refine List.Sublist.cons_cons _ ?_ | refine List.Sublist.cons _ ?_)) ?_
          refine any_one (listed' := [true, true, true, true, true, true, true, true, true, true, true, true, true, false, true, false, false, false].toArray) 12 (by kernel_rfl) rfl rfl ?_
          refine lst_lit (vs := [(0, _)]) rfl rfl Tryd.underlying22 F.ti3 rfl rfl rfl ?_
          intro b55
          refine lst_nil ?_
          refine any_next (by repeat (first | exact List.Sublist.refl _ | exact List.nil_sublist _ | refine List.Sublist.cons_cons _ ?_ | refine List.Sublist.cons _ ?_)) ?_
          refine any_one (listed' := [true, true, true, true, true, true, true, true, true, true, true, true, true, true, true, false, false, false].toArray) 13 (by kernel_rfl) rfl rfl ?_
          refine lst_append rfl rfl rfl Tryd.underlying22 F.ti3 rfl rfl rfl (by decide) (by decide) ?_
          intro A5 c5
          refine lst_nil ?_
          refine any_next (by repeat (first | exact List.Sublist.refl _ | exact List.nil_sublist _ | refine List.Sublist.cons_cons _ ?_ | refine List.Sublist.cons _ ?_)) ?_
          refine any_one (listed' := [true, true, true, true, true, true, true, true, true, true, true, true, true, true, true, true, false, false].toArray) 15 (by kernel_rfl) rfl rfl ?_
          refine lst_store rfl rfl F.ti37 rfl ?_
          refine lst_nil ?_
          refine any_next (by repeat (first | exact List.Sublist.refl _ | exact List.nil_sublist _ | refine List.Sublist.cons_cons _ ?_ | refine List.Sublist.cons _ ?_)) ?_
          refine any_take (listed' := [true, true, true, true, true, true, true, true, true, true, true, true, true, true, true, true, true, false].toArray) 16 rfl rfl rfl (by kernel_rfl) (by kernel_rfl) (by kernel_rfl) (by repeat (first | exact List.Sublist.refl _ | exact List.nil_sublist _ | refine List.Sublist.cons_cons _ ?_ | refine List.Sublist.cons _ ?_)) (yld_field_z rfl F.fi40_1 F.ti22) rfl ?_
          refine any_one (listed' := [true, true, true, true, true, true, true, true, true, true, true, true, true, true, true, true, true, true].toArray) 17 (by kernel_rfl) rfl rfl ?_
          refine lst_store rfl rfl F.ti22 rfl ?_
          refine lst_nil ?_
          refine any_next (by repeat (first | exact List.Sublist.refl _ | exact List.nil_sublist _ | refine List.Sublist.cons_cons _ ?_ | refine List.Sublist.cons _ ?_)) ?_
          refine any_done rfl (by kernel_rfl) ?_
          exact ex_ghost ⟨s8, A4, c4, A5, c5, 0⟩ hs8 (by repeat (first | exact Sub.nil _ | refine Sub.cons rfl ?_)) (by repeat (first | exact Pck.nil _ | exact Pck.refl _ | (apply Pck.cons; focus ((repeat (first | exact Rem.here _ | apply Rem.there)); done)) | refine Pck.skip _ ?_))
      · skip
        refine lst_lit (vs := [(0, _)]) rfl rfl Tryd.underlying37 F.ti22 rfl rfl rfl ?_
        intro b46
        refine lst_nil ?_
        refine any_next (by repeat (first | exact List.Sublist.refl _ | exact List.nil_sublist _ | refine List.Sublist.cons_cons _ ?_ | refine List.Sublist.cons _ ?_)) ?_
        refine any_two (l1 := [true, true, true, true, false, true, false, true, true, false, false, false, false, false, false, false, false, false].toArray) (l2 := [true, false, true, true, false, true, true, true, true, false, false, false, false, false, false, false, false, false].toArray) 1 6 (by kernel_rfl) rfl rfl rfl rfl ?_ ?_
        · skip
          refine lst_load rfl rfl F.one37 ?_
          refine lst_nil ?_
          refine any_next (by repeat (first | exact List.Sublist.refl _ | exact List.nil_sublist _ | refine List.Sublist.cons_cons _ ?_ | refine List.Sublist.cons _ ?_)) ?_
          refine any_two (l1 := [true, true, true, true, true, true, false, true, true, false, false, false, false, false, false, false, false, false].toArray) (l2 := [true, true, true, true, false, true, true, true, true, false, false, false, false, false, false, false, false, false].toArray) 4 6 (by kernel_rfl) rfl rfl rfl rfl ?_ ?_
          · skip
            refine lst_append rfl rfl rfl Tryd.underlying37 F.ti22 rfl rfl rfl (by decide) (by decide) ?_
            intro A4 c4
            refine lst_nil ?_
            refine any_next (by repeat (first | exact List.Sublist.refl _ | exact List.nil_sublist _ | refine List.Sublist.cons_cons _ ?_ | refine List.Sublist.cons _ ?_)) ?_
            refine any_two (l1 := [true, true, true, true, true, true, true, true, true, false, false, false, false, false, false, false, false, false].toArray) (l2 := [true, true, true, true, true, true, false, true, true, true, false, false, false, false, false, false, false, false].toArray) 6 9 (by kernel_rfl) rfl rfl rfl rfl ?_ ?_
            · skip
              refine lst_load rfl rfl F.one22 ?_
              refine lst_nil ?_
              refine any_next (by repeat (first | exact List.Sublist.refl _ | exact List.nil_sublist _ | refine List.Sublist.cons_cons _ ?_ | refine List.Sublist.cons _ ?_)) ?_
              refine any_take (listed' := [true, true, true, true, true, true, true, true, true, false, false, false, false, false, true, false, false, false].toArray) 14 rfl rfl rfl (by kernel_rfl) (by kernel_rfl) (by kernel_rfl) (by repeat (first | exact List.Sublist.refl _ | exact List.nil_sublist _ | refine List.Sublist.cons_cons _ ?_ | refine List.Sublist.cons _ ?_)) (yld_field_z rfl F.fi40_0 F.ti37) rfl ?_
              refine any_one (listed' := [true, true, true, true, true, true, true, true, true, true, false, false, false, false, true, false, false, false].toArray) 9 (by kernel_rfl) rfl rfl ?_
              refine lst_call_pul (X := Nat × Nat) (vs := [_, _]) hb (fun y => hatO nA nums.length nc (tk2 + 1) (y.1)) (fun y => y.1 < 18446744073709551616 ∧ y.2 ≤ ((4 : Int) : Int).toNat) (fun y => .int .i64 (y.2 : Int)) rfl rfl F.ent6 (fun a w ha => (To_c (C := ⟨Tryd.prog, B, w0, _, _⟩) rfl hB hN (tk := tk2) (st := st2) (n := (4 : Int)) (by omega) hst2 (by omega) ha).mono (fun e w' h => by obtain ⟨s', x, h1, h2, h3, h4⟩ := h; exact ⟨(s', x), ⟨h1, h2⟩, h3, h4⟩)) ?_
              rintro ⟨s7, x6⟩ ⟨hs7, hx6⟩
              (try dsimp only at hs7 hx6 ⊢)
              refine lst_nil ?_
              refine any_next (by repeat (first | exact List.Sublist.refl _ | exact List.nil_sublist _ | refine List.Sublist.cons_cons _ ?_ | refine List.Sublist.cons _ ?_)) ?_
              refine any_one (listed' := [true, true, true, true, true, true, true, true, true, true, true, false, false, false, true, false, false, false].toArray) 10 (by kernel_rfl) rfl rfl ?_
              refine lst_lit (vs := [(0, _), (1, _), (2, _), (3, _), (4, _)]) rfl rfl Tryd.underlying22 F.ti3 rfl rfl rfl ?_
              intro b53
              refine lst_nil ?_
              refine any_next (by repeat (first | exact List.Sublist.refl _ | exact List.nil_sublist _ | refine List.Sublist.cons_cons _ ?_ | refine List.Sublist.cons _ ?_)) ?_
              refine any_one (listed' := [true, true, true, true, true, true, true, true, true, true, true, true, false, false, true, false, false, false].toArray) 11 (by kernel_rfl) rfl rfl ?_
              refine lst_call_pul (X := Nat × Nat) (vs := [_, _]) hb (fun y => hatO nA nums.length nc (tk2 + 1 + 1) (y.1)) (fun y => y.1 < 18446744073709551616 ∧ y.2 ∈ [0, 1, 2, 2, x6]) (fun y => .int .i64 (y.2 : Int)) rfl rfl F.ent17 (fun a w ha => (One_c (C := ⟨Tryd.prog, B, w0, _, _⟩) rfl hB hN (tk := tk2 + 1) (st := s7) (A := some ⟨b53, 0, none⟩) (c := 5) (l := [0, 1, 2, 2, x6]) (by omega) hs7 (by simp) (by simp) (Rds.blk (b := b53) (ct := 3) (fun _ => rfl) (by simp [ncell])) ha).mono (fun e w' h => by obtain ⟨s', x, h1, h2, h3, h4⟩ := h; exact ⟨(s', x), ⟨h1, h2⟩, h3, h4⟩)) ?_
              rintro ⟨s8, sk⟩ ⟨hs8, hsk⟩
              (try dsimp only at hs8 hsk ⊢)
              refine lst_nil ?_
              refine any_next (by repeat (first | exact List.Sublist.refl _ | exact List.nil_sublist _ | refine List.Sublist.cons_cons _ ?_ | refine List.Sublist.cons _ ?_)) ?_
              refine any_one (listed' := [true, true, true, true, true, true, true, true, true, true, true, true, true, false, true, false, false, false].toArray) 12 (by kernel_rfl) rfl rfl ?_
              refine lst_lit (vs := [(0, _)]) rfl rfl Tryd.underlying22 F.ti3 rfl rfl rfl ?_
              intro b55
              refine lst_nil ?_
              refine any_next (by repeat (first | exact List.Sublist.refl _ | exact List.nil_sublist _ | refine List.Sublist.cons_cons _ ?_ | refine List.Sublist.cons _ ?_)) ?_
              refine any_one (listed' := [true, true, true, true, true, true, true, true, true, true, true, true, true, true, true, false, false, false].toArray) 13 (by kernel_rfl) rfl rfl ?_
              refine lst_append rfl rfl rfl Tryd.underlying22 F.ti3 rfl rfl rfl (by decide) (by decide) ?_
              intro A5 c5
              refine lst_nil ?_
              refine any_next (by repeat (first | exact List.Sublist.refl _ | exact List.nil_sublist _ | refine List.Sublist.cons_cons _ ?_ | refine List.Sublist.cons _ ?_)) ?_
              refine any_one (listed' := [true, true, true, true, true, true, true, true, true, true, true, true, true, true, true, true, false, false].toArray) 15 (by kernel_rfl) rfl rfl ?_
              refine lst_store rfl rfl F.ti37 rfl ?_
              refine lst_nil ?_
              refine any_next (by repeat (first | exact List.Sublist.refl _ | exact List.nil_sublist _ | refine List.Sublist.cons_cons _ ?_ | refine List.Sublist.cons _ ?_)) ?_
              refine any_take (listed' := [true, true, true, true, true, true, true, true, true, true, true, true, true, true, true, true, true, false].toArray) 16 rfl rfl rfl (by kernel_rfl) (by kernel_rfl) (by kernel_rfl) (by repeat (first | exact List.Sublist.refl _ | exact List.nil_sublist _ | refine List.Sublist.cons_cons _ ?_ | refine List.Sublist.cons _ ?_)) (yld_field_z rfl F.fi40_1 F.ti22) rfl ?_
              refine any_one (listed' := [true, true, true, true, true, true, true, true, true, true, true, true, true, true, true, true, true, true].toArray) 17 (by kernel_rfl) rfl rfl ?_
              refine lst_store rfl rfl F.ti22 rfl ?_
              refine lst_nil ?_
              refine any_next (by repeat (first | exact List.Sublist.refl _ | exact List.nil_sublist _ | refine List.Sublist.cons_cons _ ?_ | refine List.Sublist.cons _ ?_)) ?_
              refine any_done rfl (by kernel_rfl) ?_
              exact ex_ghost ⟨s8, A4, c4, A5, c5, 0⟩ hs8 (by repeat (first | exact Sub.nil _ | refine Sub.cons rfl ?_)) (by repeat (first | exact Pck.nil _ | exact Pck.refl _ | (apply Pck.cons; focus ((repeat (first | exact Rem.here _ | apply Rem.there)); done)) | refine Pck.skip _ ?_))
            · skip
              refine lst_call_pul (X := Nat × Nat) (vs := [_, _]) hb (fun y => hatO nA nums.length nc (tk2 + 1) (y.1)) (fun y => y.1 < 18446744073709551616 ∧ y.2 ≤ ((4 : Int) : Int).toNat) (fun y => .int .i64 (y.2 : Int)) rfl rfl F.ent6 (fun a w ha => (To_c (C := ⟨Tryd.prog, B, w0, _, _⟩) rfl hB hN (tk := tk2) (st := st2) (n := (4 : Int)) (by omega) hst2 (by omega) ha).mono (fun e w' h => by obtain ⟨s', x, h1, h2, h3, h4⟩ := h; exact ⟨(s', x), ⟨h1, h2⟩, h3, h4⟩)) ?_
              rintro ⟨s7, x6⟩ ⟨hs7, hx6⟩
              (try dsimp only at hs7 hx6 ⊢)
              refine lst_nil ?_
              refine any_next (by repeat (first | exact List.Sublist.refl _ | exact List.nil_sublist _ | refine List.Sublist.cons_cons _ ?_ | refine List.Sublist.cons _ ?_)) ?_
              refine any_two (l1 := [true, true, true, true, true, true, true, true, true, true, false, false, false, false, false, false, false, false].toArray) (l2 := [true, true, true, true, true, true, false, true, true, true, true, false, false, false, false, false, false, false].toArray) 6 10 (by kernel_rfl) rfl rfl rfl rfl ?_ ?_
              · skip
                refine lst_load rfl rfl F.one22 ?_
                refine lst_nil ?_
                refine any_next (by repeat (first | exact List.Sublist.refl _ | exact List.nil_sublist _ | refine List.Sublist.cons_cons _ ?_ | refine List.Sublist.cons _ ?_)) ?_
                refine any_take (listed' := [true, true, true, true, true, true, true, true, true, true, false, false, false, false, true, false, false, false].toArray) 14 rfl rfl rfl (by kernel_rfl) (by kernel_rfl) (by kernel_rfl) (by repeat (first | exact List.Sublist.refl _ | exact List.nil_sublist _ | refine List.Sublist.cons_cons _ ?_ | refine List.Sublist.cons _ ?_)) (yld_field_z rfl F.fi40_0 F.ti37) rfl ?_
                refine any_one (listed' := [true, true, true, true, true, true, true, true, true, true, true, false, false, false, true, false, false, false].toArray) 10 (by kernel_rfl) rfl rfl ?_
                refine lst_lit (vs := [(0, _), (1, _), (2, _), (3, _), (4, _)]) rfl rfl Tryd.underlying22 F.ti3 rfl rfl rfl ?_
                intro b53
                refine lst_nil ?_
                refine any_next (by repeat (first | exact List.Sublist.refl _ | exact List.nil_sublist _ | refine List.Sublist.cons_cons _ ?_ | refine List.Sublist.cons _ ?_)) ?_
                refine any_one (listed' := [true, true, true, true, true, true, true, true, true, true, true, true, false, false, true, false, false, false].toArray) 11 (by kernel_rfl) rfl rfl ?_
                refine lst_call_pul (X := Nat × Nat) (vs := [_, _]) hb (fun y => hatO nA nums.length nc (tk2 + 1 + 1) (y.1)) (fun y => y.1 < 18446744073709551616 ∧ y.2 ∈ [0, 1, 2, 2, x6]) (fun y => .int .i64 (y.2 : Int)) rfl rfl F.ent17 (fun a w ha => (One_c (C := ⟨Tryd.prog, B, w0, _, _⟩) rfl hB hN (tk := tk2 + 1) (st := s7) (A := some ⟨b53, 0, none⟩) (c := 5) (l := [0, 1, 2, 2, x6]) (by omega) hs7 (by simp) (by simp) (Rds.blk (b := b53) (ct := 3) (fun _ => rfl) (by simp [ncell])) ha).mono (fun e w' h => by obtain ⟨s', x, h1, h2, h3, h4⟩ := h; exact ⟨(s', x), ⟨h1, h2⟩, h3, h4⟩)) ?_
                rintro ⟨s8, sk⟩ ⟨hs8, hsk⟩
                (try dsimp only at hs8 hsk ⊢)
                refine lst_nil ?_
                refine any_next (by repeat (first | exact List.Sublist.refl _ | exact List.nil_sublist _ | refine List.Sublist.cons_cons _ ?_ | refine List.Sublist.cons _ ?_)) ?_
                refine any_one (listed' := [true, true, true, true, true, true, true, true, true, true, true, true, true, false, true, false, false, false].toArray) 12 (by kernel_rfl) rfl rfl ?_
                refine lst_lit (vs := [(0, _)]) rfl rfl Tryd.underlying22 F.ti3 rfl rfl rfl ?_
                intro b55
                refine lst_nil ?_
                refine any_next (by repeat (first | exact List.Sublist.refl _ | exact List.nil_sublist _ | refine List.Sublist.cons_cons _ ?_ | refine List.Sublist.cons _ ?_)) ?_
                refine any_one (listed' := [true, true, true, true, true, true, true, true, true, true, true, true, true, true, true, false, false, false].toArray) 13 (by kernel_rfl) rfl rfl ?_
                refine lst_append rfl rfl rfl Tryd.underlying22 F.ti3 rfl rfl rfl (by decide) (by decide) ?_
                intro A5 c5
                refine lst_nil ?_
                refine any_next (by repeat (first | exact List.Sublist.refl _ | exact List.nil_sublist _ | refine List.Sublist.cons_cons _ ?_ | refine List.Sublist.cons _ ?_)) ?_
                refine any_one (listed' := [true, true, true, true, true, true, true, true, true, true, true, true, true, true, true, true, false, false].toArray) 15 (by kernel_rfl) rfl rfl ?_
                refine lst_store rfl rfl F.ti37 rfl ?_
                refine lst_nil ?_
                refine any_next (by repeat (first | exact List.Sublist.refl _ | exact List.nil_sublist _ | refine List.Sublist.cons_cons _ ?_ | refine List.Sublist.cons _ ?_)) ?_
                refine any_take (listed' := [true, true, true, true, true, true, true, true, true, true, true, true, true, true, true, true, true, false].toArray) 16 rfl rfl rfl (by kernel_rfl) (by kernel_rfl) (by kernel_rfl) (by repeat (first | exact List.Sublist.refl _ | exact List.nil_sublist _ | refine List.Sublist.cons_cons _ ?_ | refine List.Sublist.cons _ ?_)) (yld_field_z rfl F.fi40_1 F.ti22) rfl ?_
                refine any_one (listed' := [true, true, true, true, true, true, true, true, true, true, true, true, true, true, true, true, true, true].toArray) 17 (by kernel_rfl) rfl rfl ?_
                refine lst_store rfl rfl F.ti22 rfl ?_
                refine lst_nil ?_
                refine any_next (by repeat (first | exact List.Sublist.refl _ | exact List.nil_sublist _ | refine List.Sublist.cons_cons _ ?_ | refine List.Sublist.cons _ ?_)) ?_
                refine any_done rfl (by kernel_rfl) ?_
                exact ex_ghost ⟨s8, A4, c4, A5, c5, 0⟩ hs8 (by repeat (first | exact Sub.nil _ | refine Sub.cons rfl ?_)) (by repeat (first | exact Pck.nil _ | exact Pck.refl _ | (apply Pck.cons; focus ((repeat (first | exact Rem.here _ | apply Rem.there)); done)) | refine Pck.skip _ ?_))
              · skip
                refine lst_lit (vs := [(0, _), (1, _), (2, _), (3, _), (4, _)]) rfl rfl Tryd.underlying22 F.ti3 rfl rfl rfl ?_
                intro b53
                refine lst_nil ?_
                refine any_next (by repeat (first | exact List.Sublist.refl _ | exact List.nil_sublist _ | refine List.Sublist.cons_cons _ ?_ | refine List.Sublist.cons _ ?_)) ?_
                refine any_two (l1 := [true, true, true, true, true, true, true, true, true, true, true, false, false, false, false, false, false, false].toArray) (l2 := [true, true, true, true, true, true, false, true, true, true, true, true, false, false, false, false, false, false].toArray) 6 11 (by kernel_rfl) rfl rfl rfl rfl ?_ ?_
                · skip
                  refine lst_load rfl rfl F.one22 ?_
                  refine lst_nil ?_
                  refine any_next (by repeat (first | exact List.Sublist.refl _ | exact List.nil_sublist _ | refine List.Sublist.cons_cons _ ?_ | refine List.Sublist.cons _ ?_)) ?_
                  refine any_take (listed' := [true, true, true, true, true, true, true, true, true, true, true, false, false, false, true, false, false, false].toArray) 14 rfl rfl rfl (by kernel_rfl) (by kernel_rfl) (by kernel_rfl) (by repeat (first | exact List.Sublist.refl _ | exact List.nil_sublist _ | refine List.Sublist.cons_cons _ ?_ | refine List.Sublist.cons _ ?_)) (yld_field_z rfl F.fi40_0 F.ti37) rfl ?_
                  refine any_one (listed' := [true, true, true, true, true, true, true, true, true, true, true, true, false, false, true, false, false, false].toArray) 11 (by kernel_rfl) rfl rfl ?_
                  refine lst_call_pul (X := Nat × Nat) (vs := [_, _]) hb (fun y => hatO nA nums.length nc (tk2 + 1 + 1) (y.1)) (fun y => y.1 < 18446744073709551616 ∧ y.2 ∈ [0, 1, 2, 2, x6]) (fun y => .int .i64 (y.2 : Int)) rfl rfl F.ent17 (fun a w ha => (One_c (C := ⟨Tryd.prog, B, w0, _, _⟩) rfl hB hN (tk := tk2 + 1) (st := s7) (A := some ⟨b53, 0, none⟩) (c := 5) (l := [0, 1, 2, 2, x6]) (by omega) hs7 (by simp) (by simp) (Rds.blk (b := b53) (ct := 3) (fun _ => rfl) (by simp [ncell])) ha).mono (fun e w' h => by obtain ⟨s', x, h1, h2, h3, h4⟩ := h; exact ⟨(s', x), ⟨h1, h2⟩, h3, h4⟩)) ?_
                  rintro ⟨s8, sk⟩ ⟨hs8, hsk⟩
                  (try dsimp only at hs8 hsk ⊢)
                  refine lst_nil ?_
                  refine any_next (by repeat (first | exact List.Sublist.refl _ | exact List.nil_sublist _ | refine List.Sublist.cons_cons _ ?_ | refine List.Sublist.cons _ ?_)) ?_
                  refine any_one (listed' := [true, true, true, true, true, true, true, true, true, true, true, true, true, false, true, false, false, false].toArray) 12 (by kernel_rfl) rfl rfl ?_
                  refine lst_lit (vs := [(0, _)]) rfl rfl Tryd.underlying22 F.ti3 rfl rfl rfl ?_
                  intro b55
                  refine lst_nil ?_
                  refine any_next (by repeat (first | exact List.Sublist.refl _ | exact List.nil_sublist _ | refine List.Sublist.cons_cons _ ?_ | refine List.Sublist.cons _ ?_)) ?_
                  refine any_one (listed' := [true, true, true, true, true, true, true, true, true, true, true, true, true, true, true, false, false, false].toArray) 13 (by kernel_rfl) rfl rfl ?_
                  refine lst_append rfl rfl rfl Tryd.underlying22 F.ti3 rfl rfl rfl (by decide) (by decide) ?_
                  intro A5 c5
                  refine lst_nil ?_
                  refine any_next (by repeat (first | exact List.Sublist.refl _ | exact List.nil_sublist _ | refine List.Sublist.cons_cons _ ?_ | refine List.Sublist.cons _ ?_)) ?_
                  refine any_one (listed' := [true, true, true, true, true, true, true, true, true, true, true, true, true, true, true, true, false, false].toArray) 15 (by kernel_rfl) rfl rfl ?_
                  refine lst_store rfl rfl F.ti37 rfl ?_
                  refine lst_nil ?_
                  refine any_next (by repeat (first | exact List.Sublist.refl _ | exact List.nil_sublist _ | refine List.Sublist.cons_cons _ ?_ | refine List.Sublist.cons _ ?_)) ?_
                  refine any_take (listed' := [true, true, true, true, true, true, true, true, true, true, true, true, true, true, true, true, true, false].toArray) 16 rfl rfl rfl (by kernel_rfl) (by kernel_rfl) (by kernel_rfl) (by repeat (first | exact List.Sublist.refl _ | exact List.nil_sublist _ | refine List.Sublist.cons_cons _ ?_ | refine List.Sublist.cons _ ?_)) (yld_field_z rfl F.fi40_1 F.ti22) rfl ?_
                  refine any_one (listed' := [true, true, true, true, true, true, true, true, true, true, true, true, true, true, true, true, true, true].toArray) 17 (by kernel_rfl) rfl rfl ?_
                  refine lst_store rfl rfl F.ti22 rfl ?_
                  refine lst_nil ?_
                  refine any_next (by repeat (first | exact List.Sublist.refl _ | exact List.nil_sublist _ | refine List.Sublist.cons_cons _ ?_ | refine List.Sublist.cons _ ?_)) ?_
                  refine any_done rfl (by kernel_rfl) ?_
                  exact ex_ghost ⟨s8, A4, c4, A5, c5, 0⟩ hs8 (by repeat (first | exact Sub.nil _ | refine Sub.cons rfl ?_)) (by repeat (first | exact Pck.nil _ | exact Pck.refl _ | (apply Pck.cons; focus ((repeat (first | exact Rem.here _ | apply Rem.there)); done)) | refine Pck.skip _ ?_))
                · skip
                  refine lst_call_pul (X := Nat × Nat) (vs := [_, _]) hb (fun y => hatO nA nums.length nc (tk2 + 1 + 1) (y.1)) (fun y => y.1 < 18446744073709551616 ∧ y.2 ∈ [0, 1, 2, 2, x6]) (fun y => .int .i64 (y.2 : Int)) rfl rfl F.ent17 (fun a w ha => (One_c (C := ⟨Tryd.prog, B, w0, _, _⟩) rfl hB hN (tk := tk2 + 1) (st := s7) (A := some ⟨b53, 0, none⟩) (c := 5) (l := [0, 1, 2, 2, x6]) (by omega) hs7 (by simp) (by simp) (Rds.blk (b := b53) (ct := 3) (fun _ => rfl) (by simp [ncell])) ha).mono (fun e w' h => by obtain ⟨s', x, h1, h2, h3, h4⟩ := h; exact ⟨(s', x), ⟨h1, h2⟩, h3, h4⟩)) ?_
                  rintro ⟨s8, sk⟩ ⟨hs8, hsk⟩
                  (try dsimp only at hs8 hsk ⊢)
                  refine lst_nil ?_
                  refine any_next (by repeat (first | exact List.Sublist.refl _ | exact List.nil_sublist _ | refine List.Sublist.cons_cons _ ?_ | refine List.Sublist.cons _ ?_)) ?_
                  refine any_two (l1 := [true, true, true, true, true, true, true, true, true, true, true, true, false, false, false, false, false, false].toArray) (l2 := [true, true, true, true, true, true, false, true, true, true, true, true, true, false, false, false, false, false].toArray) 6 12 (by kernel_rfl) rfl rfl rfl rfl ?_ ?_
                  · skip
                    refine lst_load rfl rfl F.one22 ?_
                    refine lst_nil ?_
                    refine any_next (by repeat (first | exact List.Sublist.refl _ | exact List.nil_sublist _ | refine List.Sublist.cons_cons _ ?_ | refine List.Sublist.cons _ ?_)) ?_
                    refine any_take (listed' := [true, true, true, true, true, true, true, true, true, true, true, true, false, false, true, false, false, false].toArray) 14 rfl rfl rfl (by kernel_rfl) (by kernel_rfl) (by kernel_rfl) (by repeat (first | exact List.Sublist.refl _ | exact List.nil_sublist _ | refine List.Sublist.cons_cons _ ?_ | refine List.Sublist.cons _ ?_)) (yld_field_z rfl F.fi40_0 F.ti37) rfl ?_
                    refine any_one (listed' := [true, true, true, true, true, true, true, true, true, true, true, true, true, false, true, false, false, false].toArray) 12 (by kernel_rfl) rfl rfl ?_
                    refine lst_lit (vs := [(0, _)]) rfl rfl Tryd.underlying22 F.ti3 rfl rfl rfl ?_
                    intro b55
                    refine lst_nil ?_
                    refine any_next (by repeat (first | exact List.Sublist.refl _ | exact List.nil_sublist _ | refine List.Sublist.cons_cons _ ?_ | refine List.Sublist.cons _ ?_)) ?_
                    refine any_one (listed' := [true, true, true, true, true, true, true, true, true, true, true, true, true, true, true, false, false, false].toArray) 13 (by kernel_rfl) rfl rfl ?_
                    refine lst_append rfl rfl rfl Tryd.underlying22 F.ti3 rfl rfl rfl (by decide) (by decide) ?_
                    intro A5 c5
                    refine lst_nil ?_
                    refine any_next (by repeat (first | exact List.Sublist.refl _ | exact List.nil_sublist _ | refine List.Sublist.cons_cons _ ?_ | refine List.Sublist.cons _ ?_)) ?_
                    refine any_one (listed' := [true, true, true, true, true, true, true, true, true, true, true, true, true, true, true, true, false, false].toArray) 15 (by kernel_rfl) rfl rfl ?_
                    refine lst_store rfl rfl F.ti37 rfl ?_
                    refine lst_nil ?_
                    refine any_next (by repeat (first | exact List.Sublist.refl _ | exact List.nil_sublist _ | refine List.Sublist.cons_cons _ ?_ | refine List.Sublist.cons _ ?_)) ?_
                    refine any_take (listed' := [true, true, true, true, true, true, true, true, true, true, true, true, true, true, true, true, true, false].toArray) 16 rfl rfl rfl (by kernel_rfl) (by kernel_rfl) (by kernel_rfl) (by repeat (first | exact List.Sublist.refl _ | exact List.nil_sublist _ | refine List.Sublist.cons_cons _ ?_ | refine List.Sublist.cons _ ?_)) (yld_field_z rfl F.fi40_1 F.ti22) rfl ?_
                    refine any_one (listed' := [true, true, true, true, true, true, true, true, true, true, true, true, true, true, true, true, true, true].toArray) 17 (by kernel_rfl) rfl rfl ?_
                    refine lst_store rfl rfl F.ti22 rfl ?_
                    refine lst_nil ?_
                    refine any_next (by repeat (first | exact List.Sublist.refl _ | exact List.nil_sublist _ | refine List.Sublist.cons_cons _ ?_ | refine List.Sublist.cons _ ?_)) ?_
                    refine any_done rfl (by kernel_rfl) ?_
                    exact ex_ghost ⟨s8, A4, c4, A5, c5, 0⟩ hs8 (by repeat (first | exact Sub.nil _ | refine Sub.cons rfl ?_)) (by repeat (first | exact Pck.nil _ | exact Pck.refl _ | (apply Pck.cons; focus ((repeat (first | exact Rem.here _ | apply Rem.there)); done)) | refine Pck.skip _ ?_))
                  · skip
                    refine lst_lit (vs := [(0, _)]) rfl rfl Tryd.underlying22 F.ti3 rfl rfl rfl ?_
                    intro b55
                    refine lst_nil ?_
                    refine any_next (by repeat (first | exact List.Sublist.refl _ | exact List.nil_sublist _ | refine List.Sublist.cons_cons _ ?_ | refine List.Sublist.cons _ ?_)) ?_
                    refine any_one (listed' := [true, true, true, true, true, true, true, true, true, true, true, true, true, false, false, false, false, false].toArray) 6 (by kernel_rfl) rfl rfl ?_
                    refine lst_load rfl rfl F.one22 ?_
                    refine lst_nil ?_
                    refine any_next (by repeat (first | exact List.Sublist.refl _ | exact List.nil_sublist _ | refine List.Sublist.cons_cons _ ?_ | refine List.Sublist.cons _ ?_)) ?_
                    refine any_take (listed' := [true, true, true, true, true, true, true, true, true, true, true, true, true, false, true, false, false, false].toArray) 14 rfl rfl rfl (by kernel_rfl) (by kernel_rfl) (by kernel_rfl) (by repeat (first | exact List.Sublist.refl _ | exact List.nil_sublist _ | refine List.Sublist.cons_cons _ ?_ | refine List.Sublist.cons _ ?_)) (yld_field_z rfl F.fi40_0 F.ti37) rfl ?_
                    refine any_one (listed' := [true, true, true, true, true, true, true, true, true, true, true, true, true, true, true, false, false, false].toArray) 13 (by kernel_rfl) rfl rfl ?_
                    refine lst_append rfl rfl rfl Tryd.underlying22 F.ti3 rfl rfl rfl (by decide) (by decide) ?_
                    intro A5 c5
                    refine lst_nil ?_
                    refine any_next (by repeat (first | exact List.Sublist.refl _ | exact List.nil_sublist _ | refine List.Sublist.cons_cons _ ?_ | refine List.Sublist.cons _ ?_)) ?_
                    refine any_one (listed' := [true, true, true, true, true, true, true, true, true, true, true, true, true, true, true, true, false, false].toArray) 15 (by kernel_rfl) rfl rfl ?_
                    refine lst_store rfl rfl F.ti37 rfl ?_
                    refine lst_nil ?_
                    refine any_next (by repeat (first | exact List.Sublist.refl _ | exact List.nil_sublist _ | refine List.Sublist.cons_cons _ ?_ | refine List.Sublist.cons _ ?_)) ?_
                    refine any_take (listed' := [true, true, true, true, true, true, true, true, true, true, true, true, true, true, true, true, true, false].toArray) 16 rfl rfl rfl (by kernel_rfl) (by kernel_rfl) (by kernel_rfl) (by repeat (first | exact List.Sublist.refl _ | exact List.nil_sublist _ | refine List.Sublist.cons_cons _ ?_ | refine List.Sublist.cons _ ?_)) (yld_field_z rfl F.fi40_1 F.ti22) rfl ?_
                    refine any_one (listed' := [true, true, true, true, true, true, true, true, true, true, true, true, true, true, true, true, true, true].toArray) 17 (by kernel_rfl) rfl rfl ?_
                    refine lst_store rfl rfl F.ti22 rfl ?_
                    refine lst_nil ?_
                    refine any_next (by repeat (first | exact List.Sublist.refl _ | exact List.nil_sublist _ | refine List.Sublist.cons_cons _ ?_ | refine List.Sublist.cons _ ?_)) ?_
                    refine any_done rfl (by kernel_rfl) ?_
                    exact ex_ghost ⟨s8, A4, c4, A5, c5, 0⟩ hs8 (by repeat (first | exact Sub.nil _ | refine Sub.cons rfl ?_)) (by repeat (first | exact Pck.nil _ | exact Pck.refl _ | (apply Pck.cons; focus ((repeat (first | exact Rem.here _ | apply Rem.there)); done)) | refine Pck.skip _ ?_))
          · skip
            refine lst_load rfl rfl F.one22 ?_
            refine lst_nil ?_
            refine any_next (by repeat (first | exact List.Sublist.refl _ | exact List.nil_sublist _ | refine List.Sublist.cons_cons _ ?_ | refine List.Sublist.cons _ ?_)) ?_
            refine any_one (listed' := [true, true, true, true, true, true, true, true, true, false, false, false, false, false, false, false, false, false].toArray) 4 (by kernel_rfl) rfl rfl ?_
            refine lst_append rfl rfl rfl Tryd.underlying37 F.ti22 rfl rfl rfl (by decide) (by decide) ?_
            intro A4 c4
            refine lst_nil ?_
            refine any_next (by repeat (first | exact List.Sublist.refl _ | exact List.nil_sublist _ | refine List.Sublist.cons_cons _ ?_ | refine List.Sublist.cons _ ?_)) ?_
            refine any_take (listed' := [true, true, true, true, true, true, true, true, true, false, false, false, false, false, true, false, false, false].toArray) 14 rfl rfl rfl (by kernel_rfl) (by kernel_rfl) (by kernel_rfl) (by repeat (first | exact List.Sublist.refl _ | exact List.nil_sublist _ | refine List.Sublist.cons_cons _ ?_ | refine List.Sublist.cons _ ?_)) (yld_field_z rfl F.fi40_0 F.ti37) rfl ?_
            refine any_one (listed' := [true, true, true, true, true, true, true, true, true, true, false, false, false, false, true, false, false, false].toArray) 9 (by kernel_rfl) rfl rfl ?_
            refine lst_call_pul (X := Nat × Nat) (vs := [_, _]) hb (fun y => hatO nA nums.length nc (tk2 + 1) (y.1)) (fun y => y.1 < 18446744073709551616 ∧ y.2 ≤ ((4 : Int) : Int).toNat) (fun y => .int .i64 (y.2 : Int)) rfl rfl F.ent6 (fun a w ha => (To_c (C := ⟨Tryd.prog, B, w0, _, _⟩) rfl hB hN (tk := tk2) (st := st2) (n := (4 : Int)) (by omega) hst2 (by omega) ha).mono (fun e w' h => by obtain ⟨s', x, h1, h2, h3, h4⟩ := h; exact ⟨(s', x), ⟨h1, h2⟩, h3, h4⟩)) ?_
            rintro ⟨s7, x6⟩ ⟨hs7, hx6⟩
            (try dsimp only at hs7 hx6 ⊢)
            refine lst_nil ?_
            refine any_next (by repeat (first | exact List.Sublist.refl _ | exact List.nil_sublist _ | refine List.Sublist.cons_cons _ ?_ | refine List.Sublist.cons _ ?_)) ?_
            refine any_one (listed' := [true, true, true, true, true, true, true, true, true, true, true, false, false, false, true, false, false, false].toArray) 10 (by kernel_rfl) rfl rfl ?_
            refine lst_lit (vs := [(0, _), (1, _), (2, _), (3, _), (4, _)]) rfl rfl Tryd.underlying22 F.ti3 rfl rfl rfl ?_
            intro b53
            refine lst_nil ?_
            refine any_next (by repeat (first | exact List.Sublist.refl _ | exact List.nil_sublist _ | refine List.Sublist.cons_cons _ ?_ | refine List.Sublist.cons _ ?_)) ?_
            refine any_one (listed' := [true, true, true, true, true, true, true, true, true, true, true, true, false, false, true, false, false, false].toArray) 11 (by kernel_rfl) rfl rfl ?_
            refine lst_call_pul (X := Nat × Nat) (vs := [_, _]) hb (fun y => hatO nA nums.length nc (tk2 + 1 + 1) (y.1)) (fun y => y.1 < 18446744073709551616 ∧ y.2 ∈ [0, 1, 2, 2, x6]) (fun y => .int .i64 (y.2 : Int)) rfl rfl F.ent17 (fun a w ha => (One_c (C := ⟨Tryd.prog, B, w0, _, _⟩) rfl hB hN (tk := tk2 + 1) (st := s7) (A := some ⟨b53, 0, none⟩) (c := 5) (l := [0, 1, 2, 2, x6]) (by omega) hs7 (by simp) (by simp) (Rds.blk (b := b53) (ct := 3) (fun _ => rfl) (by simp [ncell])) ha).mono (fun e w' h => by obtain ⟨s', x, h1, h2, h3, h4⟩ := h; exact ⟨(s', x), ⟨h1, h2⟩, h3, h4⟩)) ?_
            rintro ⟨s8, sk⟩ ⟨hs8, hsk⟩
            (try dsimp only at hs8 hsk ⊢)
            refine lst_nil ?_
            refine any_next (by repeat (first | exact List.Sublist.refl _ | exact List.nil_sublist _ | refine List.Sublist.cons_cons _ ?_ | refine List.Sublist.cons _ ?_)) ?_
            refine any_one (listed' := [true, true, true, true, true, true, true, true, true, true, true, true, true, false, true, false, false, false].toArray) 12 (by kernel_rfl) rfl rfl ?_
            refine lst_lit (vs := [(0, _)]) rfl rfl Tryd.underlying22 F.ti3 rfl rfl rfl ?_
            intro b55
            refine lst_nil ?_
            refine any_next (by repeat (first | exact List.Sublist.refl _ | exact List.nil_sublist _ | refine List.Sublist.cons_cons _ ?_ | refine List.Sublist.cons _ ?_)) ?_
            refine any_one (listed' := [true, true, true, true, true, true, true, true, true, true, true, true, true, true, true, false, false, false].toArray) 13 (by kernel_rfl) rfl rfl ?_
            refine lst_append rfl rfl rfl Tryd.underlying22 F.ti3 rfl rfl rfl (by decide) (by decide) ?_
            intro A5 c5
            refine lst_nil ?_
            refine any_next (by repeat (first | exact List.Sublist.refl _ | exact List.nil_sublist _ | refine List.Sublist.cons_cons _ ?_ | refine List.Sublist.cons _ ?_)) ?_
            refine any_one (listed' := [true, true, true, true, true, true, true, true, true, true, true, true, true, true, true, true, false, false].toArray) 15 (by kernel_rfl) rfl rfl ?_
            refine lst_store rfl rfl F.ti37 rfl ?_
            refine lst_nil ?_
            refine any_next (by repeat (first | exact List.Sublist.refl _ | exact List.nil_sublist _ | refine List.Sublist.cons_cons _ ?_ | refine List.Sublist.cons _ ?_)) ?_
            refine any_take (listed' := [true, true, true, true, true, true, true, true, true, true, true, true, true, true, true, true, true, false].toArray) 16 rfl rfl rfl (by kernel_rfl) (by kernel_rfl) (by kernel_rfl) (by repeat (first | exact List.Sublist.refl _ | exact List.nil_sublist _ | refine List.Sublist.cons_cons _ ?_ | refine List.Sublist.cons _ ?_)) (yld_field_z rfl F.fi40_1 F.ti22) rfl ?_
            refine any_one (listed' := [true, true, true, true, true, true, true, true, true, true, true, true, true, true, true, true, true, true].toArray) 17 (by kernel_rfl) rfl rfl ?_
            refine lst_store rfl rfl F.ti22 rfl ?_
            refine lst_nil ?_
            refine any_next (by repeat (first | exact List.Sublist.refl _ | exact List.nil_sublist _ | refine List.Sublist.cons_cons _ ?_ | refine List.Sublist.cons _ ?_)) ?_
            refine any_done rfl (by kernel_rfl) ?_
            exact ex_ghost ⟨s8, A4, c4, A5, c5, 0⟩ hs8 (by repeat (first | exact Sub.nil _ | refine Sub.cons rfl ?_)) (by repeat (first | exact Pck.nil _ | exact Pck.refl _ | (apply Pck.cons; focus ((repeat (first | exact Rem.here _ | apply Rem.there)); done)) | refine Pck.skip _ ?_))
        · skip
          refine lst_load rfl rfl F.one22 ?_
          refine lst_nil ?_
          refine any_next (by repeat (first | exact List.Sublist.refl _ | exact List.nil_sublist _ | refine List.Sublist.cons_cons _ ?_ | refine List.Sublist.cons _ ?_)) ?_
          refine any_one (listed' := [true, true, true, true, false, true, true, true, true, false, false, false, false, false, false, false, false, false].toArray) 1 (by kernel_rfl) rfl rfl ?_
          refine lst_load rfl rfl F.one37 ?_
          refine lst_nil ?_
          refine any_next (by repeat (first | exact List.Sublist.refl _ | exact List.nil_sublist _ | refine List.Sublist.cons_cons _ ?_ | refine List.Sublist.cons _ ?_)) ?_
          refine any_one (listed' := [true, true, true, true, true, true, true, true, true, false, false, false, false, false, false, false, false, false].toArray) 4 (by kernel_rfl) rfl rfl ?_
          refine lst_append rfl rfl rfl Tryd.underlying37 F.ti22 rfl rfl rfl (by decide) (by decide) ?_
          intro A4 c4
          refine lst_nil ?_
          refine any_next (by repeat (first | exact List.Sublist.refl _ | exact List.nil_sublist _ | refine List.Sublist.cons_cons _ ?_ | refine List.Sublist.cons _ ?_)) ?_
          refine any_take (listed' := [true, true, true, true, true, true, true, true, true, false, false, false, false, false, true, false, false, false].toArray) 14 rfl rfl rfl (by kernel_rfl) (by kernel_rfl) (by kernel_rfl) (by repeat (first | exact List.Sublist.refl _ | exact List.nil_sublist _ | refine List.Sublist.cons_cons _ ?_ | refine List.Sublist.cons _ ?_)) (yld_field_z rfl F.fi40_0 F.ti37) rfl ?_
          refine any_one (listed' := [true, true, true, true, true, true, true, true, true, true, false, false, false, false, true, false, false, false].toArray) 9 (by kernel_rfl) rfl rfl ?_
          refine lst_call_pul (X := Nat × Nat) (vs := [_, _]) hb (fun y => hatO nA nums.length nc (tk2 + 1) (y.1)) (fun y => y.1 < 18446744073709551616 ∧ y.2 ≤ ((4 : Int) : Int).toNat) (fun y => .int .i64 (y.2 : Int)) rfl rfl F.ent6 (fun a w ha => (To_c (C := ⟨Tryd.prog, B, w0, _, _⟩) rfl hB hN (tk := tk2) (st := st2) (n := (4 : Int)) (by omega) hst2 (by omega) ha).mono (fun e w' h => by obtain ⟨s', x, h1, h2, h3, h4⟩ := h; exact ⟨(s', x), ⟨h1, h2⟩, h3, h4⟩)) ?_
          rintro ⟨s7, x6⟩ ⟨hs7, hx6⟩
          (try dsimp only at hs7 hx6 ⊢)
          refine lst_nil ?_
          refine any_next (by repeat (first | exact List.Sublist.refl _ | exact List.nil_sublist _ | refine List.Sublist.cons_cons _ ?_ | refine List.Sublist.cons _ ?_)) ?_
          refine any_one (listed' := [true, true, true, true, true, true, true, true, true, true, true, false, false, false, true, false, false, false].toArray) 10 (by kernel_rfl) rfl rfl ?_
          refine lst_lit (vs := [(0, _), (1, _), (2, _), (3, _), (4, _)]) rfl rfl Tryd.underlying22 F.ti3 rfl rfl rfl ?_
          intro b53
          refine lst_nil ?_
          refine any_next (by repeat (first | exact List.Sublist.refl _ | exact List.nil_sublist _ | refine List.Sublist.cons_cons _ ?_ | refine List.Sublist.cons _ ?_)) ?_
          refine any_one (listed' := [true, true, true, true, true, true, true, true, true, true, true, true, false, false, true, false, false, false].toArray) 11 (by kernel_rfl) rfl rfl ?_
          refine lst_call_pul (X := Nat × Nat) (vs := [_, _]) hb (fun y => hatO nA nums.length nc (tk2 + 1 + 1) (y.1)) (fun y => y.1 < 18446744073709551616 ∧ y.2 ∈ [0, 1, 2, 2, x6]) (fun y => .int .i64 (y.2 : Int)) rfl rfl F.ent17 (fun a w ha => (One_c (C := ⟨Tryd.prog, B, w0, _, _⟩) rfl hB hN (tk := tk2 + 1) (st := s7) (A := some ⟨b53, 0, none⟩) (c := 5) (l := [0, 1, 2, 2, x6]) (by omega) hs7 (by simp) (by simp) (Rds.blk (b := b53) (ct := 3) (fun _ => rfl) (by simp [ncell])) ha).mono (fun e w' h => by obtain ⟨s', x, h1, h2, h3, h4⟩ := h; exact ⟨(s', x), ⟨h1, h2⟩, h3, h4⟩)) ?_
          rintro ⟨s8, sk⟩ ⟨hs8, hsk⟩
          (try dsimp only at hs8 hsk ⊢)
          refine lst_nil ?_
          refine any_next (by repeat (first | exact List.Sublist.refl _ | exact List.nil_sublist _ | refine List.Sublist.cons_cons _ ?_ | refine List.Sublist.cons _ ?_)) ?_
          refine any_one (listed' := [true, true, true, true, true, true, true, true, true, true, true, true, true, false, true, false, false, false].toArray) 12 (by kernel_rfl) rfl rfl ?_
          refine lst_lit (vs := [(0, _)]) rfl rfl Tryd.underlying22 F.ti3 rfl rfl rfl ?_
          intro b55
          refine lst_nil ?_
          refine any_next (by repeat (first | exact List.Sublist.refl _ | exact List.nil_sublist _ | refine List.Sublist.cons_cons _ ?_ | refine List.Sublist.cons _ ?_)) ?_
          refine any_one (listed' := [true, true, true, true, true, true, true, true, true, true, true, true, true, true, true, false, false, false].toArray) 13 (by kernel_rfl) rfl rfl ?_
          refine lst_append rfl rfl rfl Tryd.underlying22 F.ti3 rfl rfl rfl (by decide) (by decide) ?_
          intro A5 c5
          refine lst_nil ?_
          refine any_next (by repeat (first | exact List.Sublist.refl _ | exact List.nil_sublist _ | refine List.Sublist.cons_cons _ ?_ | refine List.Sublist.cons _ ?_)) ?_
          refine any_one (listed' := [true, true, true, true, true, true, true, true, true, true, true, true, true, true, true, true, false, false].toArray) 15 (by kernel_rfl) rfl rfl ?_
          refine lst_store rfl rfl F.ti37 rfl ?_
          refine lst_nil ?_
          refine any_next (by repeat (first | exact List.Sublist.refl _ | exact List.nil_sublist _ | refine List.Sublist.cons_cons _ ?_ | refine List.Sublist.cons _ ?_)) ?_
          refine any_take (listed' := [true, true, true, true, true, true, true, true, true, true, true, true, true, true, true, true, true, false].toArray) 16 rfl rfl rfl (by kernel_rfl) (by kernel_rfl) (by kernel_rfl) (by repeat (first | exact List.Sublist.refl _ | exact List.nil_sublist _ | refine List.Sublist.cons_cons _ ?_ | refine List.Sublist.cons _ ?_)) (yld_field_z rfl F.fi40_1 F.ti22) rfl ?_
          refine any_one (listed' := [true, true, true, true, true, true, true, true, true, true, true, true, true, true, true, true, true, true].toArray) 17 (by kernel_rfl) rfl rfl ?_
          refine lst_store rfl rfl F.ti22 rfl ?_
          refine lst_nil ?_
          refine any_next (by repeat (first | exact List.Sublist.refl _ | exact List.nil_sublist _ | refine List.Sublist.cons_cons _ ?_ | refine List.Sublist.cons _ ?_)) ?_
          refine any_done rfl (by kernel_rfl) ?_
          exact ex_ghost ⟨s8, A4, c4, A5, c5, 0⟩ hs8 (by repeat (first | exact Sub.nil _ | refine Sub.cons rfl ?_)) (by repeat (first | exact Pck.nil _ | exact Pck.refl _ | (apply Pck.cons; focus ((repeat (first | exact Rem.here _ | apply Rem.there)); done)) | refine Pck.skip _ ?_))
      · skip
        refine lst_load rfl rfl F.one22 ?_
        refine lst_nil ?_
        refine any_next (by repeat (first | exact List.Sublist.refl _ | exact List.nil_sublist _ | refine List.Sublist.cons_cons _ ?_ | refine List.Sublist.cons _ ?_)) ?_
        refine any_two (l1 := [true, true, true, false, false, true, true, true, true, false, false, false, false, false, false, false, false, false].toArray) (l2 := [true, false, true, true, false, true, true, true, true, false, false, false, false, false, false, false, false, false].toArray) 1 3 (by kernel_rfl) rfl rfl rfl rfl ?_ ?_
        · skip
          refine lst_load rfl rfl F.one37 ?_
          refine lst_nil ?_
          refine any_next (by repeat (first | exact List.Sublist.refl _ | exact List.nil_sublist _ | refine List.Sublist.cons_cons _ ?_ | refine List.Sublist.cons _ ?_)) ?_
          refine any_one (listed' := [true, true, true, true, false, true, true, true, true, false, false, false, false, false, false, false, false, false].toArray) 3 (by kernel_rfl) rfl rfl ?_
          refine lst_lit (vs := [(0, _)]) rfl rfl Tryd.underlying37 F.ti22 rfl rfl rfl ?_
          intro b46
          refine lst_nil ?_
          refine any_next (by repeat (first | exact List.Sublist.refl _ | exact List.nil_sublist _ | refine List.Sublist.cons_cons _ ?_ | refine List.Sublist.cons _ ?_)) ?_
          refine any_one (listed' := [true, true, true, true, true, true, true, true, true, false, false, false, false, false, false, false, false, false].toArray) 4 (by kernel_rfl) rfl rfl ?_
          refine lst_append rfl rfl rfl Tryd.underlying37 F.ti22 rfl rfl rfl (by decide) (by decide) ?_
          intro A4 c4
          refine lst_nil ?_
          refine any_next (by repeat (first | exact List.Sublist.refl _ | exact List.nil_sublist _ | refine List.Sublist.cons_cons _ ?_ | refine List.Sublist.cons _ ?_)) ?_
          refine any_take (listed' := [true, true, true, true, true, true, true, true, true, false, false, false, false, false, true, false, false, false].toArray) 14 rfl rfl rfl (by kernel_rfl) (by kernel_rfl) (by kernel_rfl) (by repeat (first | exact List.Sublist.refl _ | exact List.nil_sublist _ | refine List.Sublist.cons_cons _ ?_ | refine List.Sublist.cons _ ?_)) (yld_field_z rfl F.fi40_0 F.ti37) rfl ?_
          refine any_one (listed' := [true, true, true, true, true, true, true, true, true, true, false, false, false, false, true, false, false, false].toArray) 9 (by kernel_rfl) rfl rfl ?_
          refine lst_call_pul (X := Nat × Nat) (vs := [_, _]) hb (fun y => hatO nA nums.length nc (tk2 + 1) (y.1)) (fun y => y.1 < 18446744073709551616 ∧ y.2 ≤ ((4 : Int) : Int).toNat) (fun y => .int .i64 (y.2 : Int)) rfl rfl F.ent6 (fun a w ha => (To_c (C := ⟨Tryd.prog, B, w0, _, _⟩) rfl hB hN (tk := tk2) (st := st2) (n := (4 : Int)) (by omega) hst2 (by omega) ha).mono (fun e w' h => by obtain ⟨s', x, h1, h2, h3, h4⟩ := h; exact ⟨(s', x), ⟨h1, h2⟩, h3, h4⟩)) ?_
          rintro ⟨s7, x6⟩ ⟨hs7, hx6⟩
          (try dsimp only at hs7 hx6 ⊢)
          refine lst_nil ?_
          refine any_next (by repeat (first | exact List.Sublist.refl _ | exact List.nil_sublist _ | refine List.Sublist.cons_cons _ ?_ | refine List.Sublist.cons _ ?_)) ?_
          refine any_one (listed' := [true, true, true, true, true, true, true, true, true, true, true, false, false, false, true, false, false, false].toArray) 10 (by kernel_rfl) rfl rfl ?_
          refine lst_lit (vs := [(0, _), (1, _), (2, _), (3, _), (4, _)]) rfl rfl Tryd.underlying22 F.ti3 rfl rfl rfl ?_
          intro b53
          refine lst_nil ?_
          refine any_next (by repeat (first | exact List.Sublist.refl _ | exact List.nil_sublist _ | refine List.Sublist.cons_cons _ ?_ | refine List.Sublist.cons _ ?_)) ?_
          refine any_one (listed' := [true, true, true, true, true, true, true, true, true, true, true, true, false, false, true, false, false, false].toArray) 11 (by kernel_rfl) rfl rfl ?_
          refine lst_call_pul (X := Nat × Nat) (vs := [_, _]) hb (fun y => hatO nA nums.length nc (tk2 + 1 + 1) (y.1)) (fun y => y.1 < 18446744073709551616 ∧ y.2 ∈ [0, 1, 2, 2, x6]) (fun y => .int .i64 (y.2 : Int)) rfl rfl F.ent17 (fun a w ha => (One_c (C := ⟨Tryd.prog, B, w0, _, _⟩) rfl hB hN (tk := tk2 + 1) (st := s7) (A := some ⟨b53, 0, none⟩) (c := 5) (l := [0, 1, 2, 2, x6]) (by omega) hs7 (by simp) (by simp) (Rds.blk (b := b53) (ct := 3) (fun _ => rfl) (by simp [ncell])) ha).mono (fun e w' h => by obtain ⟨s', x, h1, h2, h3, h4⟩ := h; exact ⟨(s', x), ⟨h1, h2⟩, h3, h4⟩)) ?_
          rintro ⟨s8, sk⟩ ⟨hs8, hsk⟩
          (try dsimp only at hs8 hsk ⊢)
          refine lst_nil ?_
          refine any_next (by repeat (first | exact List.Sublist.refl _ | exact List.nil_sublist _ | refine List.Sublist.cons_cons _ ?_ | refine List.Sublist.cons _ ?_)) ?_
          refine any_one (listed' := [true, true, true, true, true, true, true, true, true, true, true, true, true, false, true, false, false, false].toArray) 12 (by kernel_rfl) rfl rfl ?_
          refine lst_lit (vs := [(0, _)]) rfl rfl Tryd.underlying22 F.ti3 rfl rfl rfl ?_
          intro b55
          refine lst_nil ?_
          refine any_next (by repeat (first | exact List.Sublist.refl _ | exact List.nil_sublist _ | refine List.Sublist.cons_cons _ ?_ | refine List.Sublist.cons _ ?_)) ?_
          refine any_one (listed' := [true, true, true, true, true, true, true, true, true, true, true, true, true, true, true, false, false, false].toArray) 13 (by kernel_rfl) rfl rfl ?_
          refine lst_append rfl rfl rfl Tryd.underlying22 F.ti3 rfl rfl rfl (by decide) (by decide) ?_
          intro A5 c5
          refine lst_nil ?_
          refine any_next (by repeat (first | exact List.Sublist.refl _ | exact List.nil_sublist _ | refine List.Sublist.cons_cons _ ?_ | refine List.Sublist.cons _ ?_)) ?_
          refine any_one (listed' := [true, true, true, true, true, true, true, true, true, true, true, true, true, true, true, true, false, false].toArray) 15 (by kernel_rfl) rfl rfl ?_
          refine lst_store rfl rfl F.ti37 rfl ?_
          refine lst_nil ?_
          refine any_next (by repeat (first | exact List.Sublist.refl _ | exact List.nil_sublist _ | refine List.Sublist.cons_cons _ ?_ | refine List.Sublist.cons _ ?_)) ?_
          refine any_take (listed' := [true, true, true, true, true, true, true, true, true, true, true, true, true, true, true, true, true, false].toArray) 16 rfl rfl rfl (by kernel_rfl) (by kernel_rfl) (by kernel_rfl) (by repeat (first | exact List.Sublist.refl _ | exact List.nil_sublist _ | refine List.Sublist.cons_cons _ ?_ | refine List.Sublist.cons _ ?_)) (yld_field_z rfl F.fi40_1 F.ti22) rfl ?_
          refine any_one (listed' := [true, true, true, true, true, true, true, true, true, true, true, true, true, true, true, true, true, true].toArray) 17 (by kernel_rfl) rfl rfl ?_
          refine lst_store rfl rfl F.ti22 rfl ?_
          refine lst_nil ?_
          refine any_next (by repeat (first | exact List.Sublist.refl _ | exact List.nil_sublist _ | refine List.Sublist.cons_cons _ ?_ | refine List.Sublist.cons _ ?_)) ?_
          refine any_done rfl (by kernel_rfl) ?_
          exact ex_ghost ⟨s8, A4, c4, A5, c5, 0⟩ hs8 (by repeat (first | exact Sub.nil _ | refine Sub.cons rfl ?_)) (by repeat (first | exact Pck.nil _ | exact Pck.refl _ | (apply Pck.cons; focus ((repeat (first | exact Rem.here _ | apply Rem.there)); done)) | refine Pck.skip _ ?_))
        · skip
          refine lst_lit (vs := [(0, _)]) rfl rfl Tryd.underlying37 F.ti22 rfl rfl rfl ?_
          intro b46
          refine lst_nil ?_
          refine any_next (by repeat (first | exact List.Sublist.refl _ | exact List.nil_sublist _ | refine List.Sublist.cons_cons _ ?_ | refine List.Sublist.cons _ ?_)) ?_
          refine any_one (listed' := [true, true, true, true, false, true, true, true, true, false, false, false, false, false, false, false, false, false].toArray) 1 (by kernel_rfl) rfl rfl ?_
          refine lst_load rfl rfl F.one37 ?_
          refine lst_nil ?_
          refine any_next (by repeat (first | exact List.Sublist.refl _ | exact List.nil_sublist _ | refine List.Sublist.cons_cons _ ?_ | refine List.Sublist.cons _ ?_)) ?_
          refine any_one (listed' := [true, true, true, true, true, true, true, true, true, false, false, false, false, false, false, false, false, false].toArray) 4 (by kernel_rfl) rfl rfl ?_
          refine lst_append rfl rfl rfl Tryd.underlying37 F.ti22 rfl rfl rfl (by decide) (by decide) ?_
          intro A4 c4
          refine lst_nil ?_
          refine any_next (by repeat (first | exact List.Sublist.refl _ | exact List.nil_sublist _ | refine List.Sublist.cons_cons _ ?_ | refine List.Sublist.cons _ ?_)) ?_
          refine any_take (listed' := [true, true, true, true, true, true, true, true, true, false, false, false, false, false, true, false, false, false].toArray) 14 rfl rfl rfl (by kernel_rfl) (by kernel_rfl) (by kernel_rfl) (by repeat (first | exact List.Sublist.refl _ | exact List.nil_sublist _ | refine List.Sublist.cons_cons _ ?_ | refine List.Sublist.cons _ ?_)) (yld_field_z rfl F.fi40_0 F.ti37) rfl ?_
          refine any_one (listed' := [true, true, true, true, true, true, true, true, true, true, false, false, false, false, true, false, false, false].toArray) 9 (by kernel_rfl) rfl rfl ?_
          refine lst_call_pul (X := Nat × Nat) (vs := [_, _]) hb (fun y => hatO nA nums.length nc (tk2 + 1) (y.1)) (fun y => y.1 < 18446744073709551616 ∧ y.2 ≤ ((4 : Int) : Int).toNat) (fun y => .int .i64 (y.2 : Int)) rfl rfl F.ent6 (fun a w ha => (To_c (C := ⟨Tryd.prog, B, w0, _, _⟩) rfl hB hN (tk := tk2) (st := st2) (n := (4 : Int)) (by omega) hst2 (by omega) ha).mono (fun e w' h => by obtain ⟨s', x, h1, h2, h3, h4⟩ := h; exact ⟨(s', x), ⟨h1, h2⟩, h3, h4⟩)) ?_
          rintro ⟨s7, x6⟩ ⟨hs7, hx6⟩
          (try dsimp only at hs7 hx6 ⊢)
          refine lst_nil ?_
          refine any_next (by repeat (first | exact List.Sublist.refl _ | exact List.nil_sublist _ | refine List.Sublist.cons_cons _ ?_ | refine List.Sublist.cons _ ?_)) ?_
          refine any_one (listed' := [true, true, true, true, true, true, true, true, true, true, true, false, false, false, true, false, false, false].toArray) 10 (by kernel_rfl) rfl rfl ?_
          refine lst_lit (vs := [(0, _), (1, _), (2, _), (3, _), (4, _)]) rfl rfl Tryd.underlying22 F.ti3 rfl rfl rfl ?_
          intro b53
          refine lst_nil ?_
          refine any_next (by repeat (first | exact List.Sublist.refl _ | exact List.nil_sublist _ | refine List.Sublist.cons_cons _ ?_ | refine List.Sublist.cons _ ?_)) ?_
          refine any_one (listed' := [true, true, true, true, true, true, true, true, true, true, true, true, false, false, true, false, false, false].toArray) 11 (by kernel_rfl) rfl rfl ?_
          refine lst_call_pul (X := Nat × Nat) (vs := [_, _]) hb (fun y => hatO nA nums.length nc (tk2 + 1 + 1) (y.1)) (fun y => y.1 < 18446744073709551616 ∧ y.2 ∈ [0, 1, 2, 2, x6]) (fun y => .int .i64 (y.2 : Int)) rfl rfl F.ent17 (fun a w ha => (One_c (C := ⟨Tryd.prog, B, w0, _, _⟩) rfl hB hN (tk := tk2 + 1) (st := s7) (A := some ⟨b53, 0, none⟩) (c := 5) (l := [0, 1, 2, 2, x6]) (by omega) hs7 (by simp) (by simp) (Rds.blk (b := b53) (ct := 3) (fun _ => rfl) (by simp [ncell])) ha).mono (fun e w' h => by obtain ⟨s', x, h1, h2, h3, h4⟩ := h; exact ⟨(s', x), ⟨h1, h2⟩, h3, h4⟩)) ?_
          rintro ⟨s8, sk⟩ ⟨hs8, hsk⟩
          (try dsimp only at hs8 hsk ⊢)
          refine lst_nil ?_
          refine any_next (by repeat (first | exact List.Sublist.refl _ | exact List.nil_sublist _ | refine List.Sublist.cons_cons _ ?_ | refine List.Sublist.cons _ ?_)) ?_
          refine any_one (listed' := [true, true, true, true, true, true, true, true, true, true, true, true, true, false, true, false, false, false].toArray) 12 (by kernel_rfl) rfl rfl ?_
          refine lst_lit (vs := [(0, _)]) rfl rfl Tryd.underlying22 F.ti3 rfl rfl rfl ?_
          intro b55
          refine lst_nil ?_
          refine any_next (by repeat (first | exact List.Sublist.refl _ | exact List.nil_sublist _ | refine List.Sublist.cons_cons _ ?_ | refine List.Sublist.cons _ ?_)) ?_
          refine any_one (listed' := [true, true, true, true, true, true, true, true, true, true, true, true, true, true, true, false, false, false].toArray) 13 (by kernel_rfl) rfl rfl ?_
          refine lst_append rfl rfl rfl Tryd.underlying22 F.ti3 rfl rfl rfl (by decide) (by decide) ?_
          intro A5 c5
          refine lst_nil ?_
          refine any_next (by repeat (first | exact List.Sublist.refl _ | exact List.nil_sublist _ | refine List.Sublist.cons_cons _ ?_ | refine List.Sublist.cons _ ?_)) ?_
          refine any_one (listed' := [true, true, true, true, true, true, true, true, true, true, true, true, true, true, true, true, false, false].toArray) 15 (by kernel_rfl) rfl rfl ?_
          refine lst_store rfl rfl F.ti37 rfl ?_
          refine lst_nil ?_
          refine any_next (by repeat (first | exact List.Sublist.refl _ | exact List.nil_sublist _ | refine List.Sublist.cons_cons _ ?_ | refine List.Sublist.cons _ ?_)) ?_
          refine any_take (listed' := [true, true, true, true, true, true, true, true, true, true, true, true, true, true, true, true, true, false].toArray) 16 rfl rfl rfl (by kernel_rfl) (by kernel_rfl) (by kernel_rfl) (by repeat (first | exact List.Sublist.refl _ | exact List.nil_sublist _ | refine List.Sublist.cons_cons _ ?_ | refine List.Sublist.cons _ ?_)) (yld_field_z rfl F.fi40_1 F.ti22) rfl ?_
          refine any_one (listed' := [true, true, true, true, true, true, true, true, true, true, true, true, true, true, true, true, true, true].toArray) 17 (by kernel_rfl) rfl rfl ?_
          refine lst_store rfl rfl F.ti22 rfl ?_
          refine lst_nil ?_
          refine any_next (by repeat (first | exact List.Sublist.refl _ | exact List.nil_sublist _ | refine List.Sublist.cons_cons _ ?_ | refine List.Sublist.cons _ ?_)) ?_
          refine any_done rfl (by kernel_rfl) ?_
          exact ex_ghost ⟨s8, A4, c4, A5, c5, 0⟩ hs8 (by repeat (first | exact Sub.nil _ | refine Sub.cons rfl ?_)) (by repeat (first | exact Pck.nil _ | exact Pck.refl _ | (apply Pck.cons; focus ((repeat (first | exact Rem.here _ | apply Rem.there)); done)) | refine Pck.skip _ ?_))
    · skip
      rintro ⟨s9, A6, c6, A7, c7, _⟩ hs9
      (try dsimp only at hs9 ⊢)
      refine ex_block_normal ?_
      refine ex_then ?_
      refine cod_region ?_
      refine lst_move rfl rfl ?_
      refine lst_int (v := .int .i64 0) rfl rfl rfl (fun w => bin_sub w (by decide)) ?_
      refine lst_assign rfl rfl ?_
      refine lst_nil ?_
      refine ex_rounds ?_
      refine cod_seq ?_
      refine cod_seq ?_
      refine cod_region ?_
      refine lst_move rfl rfl ?_
      refine lst_int rfl rfl rfl bin_gtr ?_
      refine lst_nil ?_
      refine ex_then ?_
      refine cod_cond_false rfl ?_
      refine cod_exit ?_
      refine ex_then_exit ?_
      refine ex_then_exit ?_
      refine ex_block_exit ?_
      refine ex_then ?_
      refine cod_seq ?_
      refine cod_seq ?_
      refine cod_region ?_
      refine lst_move rfl rfl ?_
      refine lst_move rfl rfl ?_
      refine lst_call_pul (X := Nat × Nat) (vs := [_, _]) hb (fun y => hatO nA nums.length nc (tk2 + 1 + 1 + 1) (y.1)) (fun y => y.1 < 18446744073709551616 ∧ y.2 ≤ ((0 : Int) : Int).toNat) (fun y => .int .i64 (y.2 : Int)) rfl rfl F.ent6 (fun a w ha => (To_c (C := ⟨Tryd.prog, B, w0, _, _⟩) rfl hB hN (tk := tk2 + 1 + 1) (st := s9) (n := (0 : Int)) (by omega) hs9 (by omega) ha).mono (fun e w' h => by obtain ⟨s', x, h1, h2, h3, h4⟩ := h; exact ⟨(s', x), ⟨h1, h2⟩, h3, h4⟩)) ?_
      rintro ⟨s10, x8⟩ ⟨hs10, hx8⟩
      (try dsimp only at hs10 hx8 ⊢)
      obtain rfl : x8 = 0 := by omega
      refine lst_assign rfl rfl ?_
      refine lst_nil ?_
      refine ex_then ?_
      refine cod_block ?_
      refine cod_rounds 0 ?_
      refine cod_seq ?_
      refine cod_seq ?_
      refine cod_region ?_
      refine lst_move rfl rfl ?_
      refine lst_int rfl rfl rfl bin_gtr ?_
      refine lst_nil ?_
      refine ex_then ?_
      refine cod_cond_false rfl ?_
      refine cod_exit ?_
      refine ex_then_exit ?_
      refine ex_then_exit ?_
      refine ex_block_exit ?_
      refine ex_then ?_
      refine cod_seq ?_
      refine cod_region ?_
      refine lst_loadN rfl rfl F.agg40 F.ti40 ?_
      refine lst_store rfl rfl F.ti40 rfl ?_
      refine lst_nil ?_
      refine ex_then ?_
      refine cod_ret ?_
      refine ex_ret rfl (fun a w ha => res_cellN (C := ⟨Tryd.prog, _, _, _, _⟩) (fn := Tryd.f8) rfl rfl F.agg40 F.ti40 rfl ha) (fun _ _ ha' => ⟨tk2 + 1 + 1 + 1, s10, kf, l, A, c, A6, A7, c6, c7, by have := hj; omega, hs10, hP.ok (by omega) (by omega), rfl, ?_⟩)
      exact ha.back (ha'.pck (by repeat (first | exact Pck.nil _ | exact Pck.refl _ | (apply Pck.cons; focus ((repeat (first | exact Rem.here _ | apply Rem.there)); done)) | refine Pck.skip _ ?_)))

end Go.Proofs.YthkbagikmbcphaaDoor.N
namespace Go.Proofs.YthkbagikmbcphaaDoor.N
open Go Go.RowKit Go.Proofs
theorem aw1 : okN [⟨-1, 30, 0, 0⟩] (nowN [⟨-1, 30, 0, 0⟩] [⟨0, 0, 24, 1⟩]) = true := by kernel_rfl
theorem aw2 : wgtF [⟨-1, 30, 0, 0⟩] (nowN [⟨-1, 30, 0, 0⟩] [⟨0, 0, 24, 1⟩]) 0 41 = (23, 25) := by kernel_rfl
theorem aw3 (x y : Operand) (w : World) : (do eqGuard .eql 33 x y (.agg #[.int .i64 23, .int .i64 25]) (.agg #[.int .i64 23, .int .i64 25]); binOp .eql 33 (.agg #[.int .i64 23, .int .i64 25]) (.agg #[.int .i64 23, .int .i64 25]) : Sem Value).run Tryd.prog w = .ok (.bool true) w := by kernel_rfl
theorem aw4 : LoafOk [5, 3, 2] := LoafP.ok (n := 1) ((((loafP_nil (n := 5) (by decide) (by decide)).snoc 2).snoc 1).snoc 1) (by decide) (by decide)
theorem aw5 : ∀ (i : Nat) (x : Vs), ([⟨-1, 30, 0, 0⟩] : List Vs)[i]? = some x → -1 ≤ x.fr ∧ x.fr < (i : Int) ∧ x.room ≤ 40 ∧ x.lo ≤ x.hi ∧ x.hi ≤ 20 := by
  intro i x h
  match i, h with
  | 0, h => simp at h; subst h; decide
  | i + 1, h => simp at h
theorem aw6 : ∀ (i : Nat) (x : Rd), ([⟨0, 0, 24, 1⟩] : List Rd)[i]? = some x → x.v < ([⟨-1, 30, 0, 0⟩] : List Vs).length ∧ x.sc ≤ 2 ∧ x.sh ≤ 60 ∧ x.er ≤ 9 := by
  intro i x h
  match i, h with
  | 0, h => simp at h; subst h; decide
  | i + 1, h => simp at h
theorem row_ints {C : Ctx} {fr : List (Nat × Value)} {hp : List Res} {a : Act} {w : World} (ha : At C fr hp a w) {A : Option Addr} {l : List Nat} {n c : Nat} (hr : Res.row 3 1 A n c (ints l) ∈ hp) (hn : n = l.length) : RdL ncell 1 w A l :=
  row_reads ha (cells := ncell) (e := 3) (c := c) (n := n) (fun _ => rfl) (by rw [← ints_flat]; exact hr) hn
theorem Melt.hv {vs : List Vs} {rs : List Rd} {ws : List Nat} (h : Melt vs rs ws) : ∀ (i : Nat) x, vs[i]? = some x → -1 ≤ x.fr ∧ x.fr < (i : Int) ∧ x.room ≤ 40 ∧ x.lo ≤ x.hi ∧ x.hi ≤ 20 := fun i x hx => by
  obtain ⟨hi, _⟩ := List.getElem?_eq_some_iff.1 hx
  have e : vs.getD i default = x := by rw [List.getD_eq_getElem?_getD, hx]; rfl
  have h1 := h.fr i hi
  have h2 := h.room i hi
  have h3 := h.los i hi
  rw [e] at h1 h2 h3
  exact ⟨h1.1, h1.2, h2.1, h3.1, h3.2⟩
theorem Melt.hr {vs : List Vs} {rs : List Rd} {ws : List Nat} (h : Melt vs rs ws) : ∀ (i : Nat) x, rs[i]? = some x → x.v < vs.length ∧ x.sc ≤ 2 ∧ x.sh ≤ 60 ∧ x.er ≤ 9 := fun i x hx => by
  obtain ⟨h1, h2, h3, h4, _⟩ := h.rd x (List.mem_of_getElem? hx)
  exact ⟨h1, h2, h4, h3⟩
theorem lst_fieldv {C : Ctx} {fr : List (Nat × Value)} {hp : List Res} {ops : Array Oper} {Q : Exit → Act → World → Prop} {rest : List Oper} {d : Nat} {ty : TypeId} {pos : String} {after : Array Edge} {x : Operand} {t : TypeId} {f : Nat} {v r : Value} (hd : Nat.blt d C.N = true) (hx : ev fr x = some v) (hr : ∀ w, (Instr.field t v f).run C.P w = .ok r w)
    (k : Lst C ops Q rest ((d, r) :: fr) hp) : Lst C ops Q (⟨some d, .field t x f, ty, pos, after, none⟩ :: rest) fr hp :=
  lst_value _ hd (fun a w ha => ⟨w, by simp [execOp, ha.eval hx, hr w], ha⟩) k
theorem aw7 (v a b c : Value) (w : World) : (Instr.field 40 (.agg #[v, a, b, c]) 0).run Tryd.prog w = .ok v w := by kernel_rfl
end Go.Proofs.YthkbagikmbcphaaDoor.N
