/- Parts of the walk of the law TopCrushed: T12. -/
import Derived.Test.YthkbagikmbcphaaDoorSTopCrushed04
import Derived.Test.YthkbagikmbcphaaDoorProg
import Derived.Test.YthkbagikmbcphaaDoorSTopCrushed00
import Derived.Test.YthkbagikmbcphaaDoorSTopCrushed01
import Derived.Test.YthkbagikmbcphaaDoorSTopCrushed02
namespace Go.Proofs.YthkbagikmbcphaaDoor.N
open Go Go.RowKit Go.Proofs
theorem F.ent15 : Enters Tryd.prog 15 := enters_of Tryd.func15 rfl (by kernel_rfl)
theorem F.ent16 : Enters Tryd.prog 16 := enters_of Tryd.func16 rfl (by kernel_rfl)
theorem F.ent17 : Enters Tryd.prog 17 := enters_of Tryd.func17 rfl (by kernel_rfl)
theorem F.pl28 : Places Tryd.prog 28 [(0, 1), (1, 1)] := .inl ⟨_, Tryd.underlying28, by kernel_rfl⟩
theorem F.pl56 : Places Tryd.prog 56 [(0, 1), (1, 1), (2, 2)] := .inl ⟨_, Tryd.underlying56, by kernel_rfl⟩
theorem F.pl59 : Places Tryd.prog 59 [(0, 1), (1, 1), (2, 1), (3, 1)] := .inl ⟨_, Tryd.underlying59, by kernel_rfl⟩
set_option maxHeartbeats 4000000 in
theorem MeltOf_c {C : Ctx} {fr : List (Nat × Value)} {T : List Res} {a : Act} {w : World} (hC : C.P = Tryd.prog) {hb tk st nc : Nat} {nA : Option Addr} {nums : List Int} (hB : C.w0.heap.size = C.B) (hN : RdL icell 1 C.w0 nA nums) (htk : tk ≤ 1000) (hst : st < 18446744073709551616) (ha : At C fr (.blk hb (hatO nA nums.length nc (tk) (st)) :: T) a w) : Calls C.P 5 #[.pointer (some ⟨hb, 0, none⟩), .int .i64 4, .int .i64 30] w fun e w' => ∃ (tk' st' : Nat) (vs : List Vs) (rs : List Rd) (ws : List Nat) (vA : Option Addr) (vc : Nat) (rA : Option Addr) (rc : Nat) (wA : Option Addr) (wc : Nat), tk' ≤ 2000 ∧ st' < 18446744073709551616 ∧ Melt vs rs ws ∧ e = .returned (.tuple #[.agg [.slice vA vs.length vc, .slice rA rs.length rc].toArray, .slice wA ws.length wc]) ∧ At C fr (.blk hb (hatO nA nums.length nc (tk') (st')) :: .row 56 4 vA vs.length vc (vs.flatMap Vs.cells) :: .row 59 4 rA rs.length rc (rs.flatMap Rd.cells) :: .row 3 1 wA ws.length wc (ints ws) :: T) a w' := by
  obtain ⟨P, B, w0, N0, ds⟩ := C
  obtain rfl : P = Tryd.prog := hC
  (try dsimp only at hB)
  (try dsimp only at hN)
  refine enter_in (N := 205) [(0, .pointer (some ⟨hb, 0, none⟩)), (1, .int .i64 4), (2, .int .i64 30)] ha Tryd.func5 rfl Tryd.ntmps5 rfl rfl ?_
  refine cod_seq ?_
  refine cod_region ?_
  refine lst_alloc rfl F.ti28 ?_
  intro b6
  refine lst_assign rfl rfl ?_
  refine lst_nil ?_
  refine ex_then ?_
  refine cod_seq ?_
  refine cod_region ?_
  refine lst_alloc rfl F.ti28 ?_
  intro b8
  refine lst_nil ?_
  refine ex_then ?_
  refine cod_seq ?_
  refine cod_region ?_
  refine lst_move rfl rfl ?_
  refine lst_move rfl rfl ?_
  refine lst_call_pul (X := Nat × Int) (vs := [_, _, _]) hb (fun y => hatO nA nums.length nc (tk + 1) (y.1)) (fun y => y.1 < 18446744073709551616 ∧ (1 : Int) ≤ y.2 ∧ y.2 ≤ (4 : Int)) (fun y => .int .i64 y.2) rfl rfl F.ent15 (fun a w ha => (From_c (C := ⟨Tryd.prog, B, w0, _, _⟩) rfl hB hN (tk := tk) (st := st) (lo := (1 : Int)) (hi := (4 : Int)) (by omega) hst (by omega) (by omega) (by omega) ha).mono (fun e w' h => by obtain ⟨s', x, h1, h2, h3, h4, h5⟩ := h; exact ⟨(s', x), ⟨h1, h2, h3⟩, h4, h5⟩)) ?_
  rintro ⟨s1, n0⟩ ⟨hs1, hn0a, hn0b⟩
  (try dsimp only at hs1 hn0a hn0b ⊢)
  obtain ⟨n, rfl⟩ : ∃ n : Nat, n0 = (n : Int) := ⟨n0.toNat, by omega⟩
  refine lst_assign rfl rfl ?_
  refine lst_nil ?_
  refine ex_then ?_
  refine cod_seq ?_
  refine cod_region ?_
  refine lst_move rfl rfl ?_
  refine lst_make_ints rfl rfl rfl Tryd.underlying22 F.ti3 (by omega) ?_
  intro b25
  refine lst_assign rfl rfl ?_
  refine lst_nil ?_
  refine ex_then ?_
  refine cod_seq ?_
  refine cod_region ?_
  refine lst_move rfl rfl ?_
  refine lst_make_ints rfl rfl rfl Tryd.underlying22 F.ti3 (by omega) ?_
  intro b27
  refine lst_assign rfl rfl ?_
  refine lst_nil ?_
  refine ex_then ?_
  refine cod_seq ?_
  refine cod_seq ?_
  refine cod_region ?_
  refine lst_assign rfl rfl ?_
  refine lst_nil ?_
  refine ex_then ?_
  refine cod_block ?_
  refine cod_row0 56 4 ?_
  refine cod_loop' (G := List Vs × Nat × Nat × Option Addr × Nat) (fun g => g.1.length ≤ n ∧ (∀ i, i < g.1.length → -1 ≤ (g.1.getD i default).fr ∧ (g.1.getD i default).fr < (i : Int)) ∧ g.2.1 < 18446744073709551616 ∧ g.2.2.1 ≤ 1010 + 10 * g.1.length) (fun g => n - g.1.length) (fun g => [(0, .pointer (some ⟨hb, 0, none⟩)), (2, .int .i64 30), (6, .pointer (some ⟨b6, 0, none⟩)), (8, .pointer (some ⟨b8, 0, none⟩)), (9, .int .i64 (n : Int)), (10, .slice (some ⟨b25, 0, none⟩) n n), (11, .slice (some ⟨b27, 0, none⟩) n n), (12, .int .i64 (g.1.length : Int))]) (fun g => .blk hb (hatO nA nums.length nc (g.2.2.1) (g.2.1)) :: .row 56 4 (g.2.2.2.1) (g.1.length) (g.2.2.2.2) (List.flatMap Vs.cells g.1) :: .blk b8 (.cells [.slice (g.2.2.2.1) (g.1.length) (g.2.2.2.2), .slice (none) (0) (0)].toArray 28 (0, 0)) :: .row 3 1 (some ⟨b25, 0, none⟩) n n (ints (List.replicate n 0)) :: .row 3 1 (some ⟨b27, 0, none⟩) n n (ints (List.replicate n 0)) :: .blk b6 (.cells [.slice none 0 0, .slice none 0 0].toArray 28 (0, 0)) :: T) (⟨[], s1, tk + 1, none, 0⟩) ⟨Nat.zero_le _, (fun i hi => by cases hi), hs1, by (try dsimp only [List.length_nil]); omega⟩ (by repeat (first | exact Sub.nil _ | refine Sub.cons rfl ?_)) (by repeat (first | exact Pck.nil _ | exact Pck.refl _ | (apply Pck.cons; focus ((repeat (first | exact Rem.here _ | apply Rem.there)); done)) | refine Pck.skip _ ?_)) ?_
  rintro ⟨vs, st1, tk1, wA, wc⟩ ⟨hk, hfr, hst1, htk1⟩
  (try dsimp only at hk hfr hst1 htk1 ⊢)
  refine cod_seq ?_
  refine cod_seq ?_
  refine cod_region ?_
  refine lst_move rfl rfl ?_
  refine lst_move rfl rfl ?_
  refine lst_int rfl rfl rfl bin_lss ?_
  refine lst_nil ?_
  refine ex_then ?_
  refine cod_cond_dec rfl (fun hc0 => ?_) (fun hc0 => ?_)
  · skip
    have hk' : vs.length < n := by omega
    refine cod_skip ?_
    refine ex_then ?_
    refine cod_seq ?_
    refine cod_block ?_
    refine cod_seq ?_
    refine cod_region ?_
    refine lst_assign rfl rfl ?_
    refine lst_nil ?_
    refine ex_then ?_
    refine cod_seq ?_
    refine cod_seq ?_
    refine cod_ghost (G := Nat × Nat × Bool) (fun g => g.1 < 18446744073709551616 ∧ g.2.1 ≤ 1011 + 10 * vs.length ∧ (g.2.2 = true → 0 < vs.length)) (fun g => [(39, .bool g.2.2), (13, .int .i64 (-1)), (0, .pointer (some ⟨hb, 0, none⟩)), (2, .int .i64 30), (6, .pointer (some ⟨b6, 0, none⟩)), (8, .pointer (some ⟨b8, 0, none⟩)), (9, .int .i64 (n : Int)), (10, .slice (some ⟨b25, 0, none⟩) n n), (11, .slice (some ⟨b27, 0, none⟩) n n), (12, .int .i64 (vs.length : Int))]) (fun g => .blk hb (hatO nA nums.length nc (g.2.1) (g.1)) :: .row 56 4 (wA) (vs.length) (wc) (List.flatMap Vs.cells vs) :: .blk b8 (.cells [.slice (wA) (vs.length) (wc), .slice (none) (0) (0)].toArray 28 (0, 0)) :: .row 3 1 (some ⟨b25, 0, none⟩) n n (ints (List.replicate n 0)) :: .row 3 1 (some ⟨b27, 0, none⟩) n n (ints (List.replicate n 0)) :: .blk b6 (.cells [.slice none 0 0, .slice none 0 0].toArray 28 (0, 0)) :: T) ?_ ?_
    · skip
      refine cod_region ?_
      refine lst_move rfl rfl ?_
      refine lst_int rfl rfl rfl bin_gtr ?_
      refine lst_move rfl rfl ?_
      refine lst_split (t := 35) rfl (fun hg35 => ?_) (fun hg35 => ?_)
      · skip
        refine lst_on rfl rfl ?_
        refine lst_move rfl rfl ?_
        refine lst_on rfl rfl ?_
        refine lst_call_pul (X := Nat × Bool) (vs := [_, _]) hb (fun y => hatO nA nums.length nc (tk1 + 1) (y.1)) (fun y => y.1 < 18446744073709551616) (fun y => .bool y.2) rfl rfl F.ent16 (fun a w ha => (Seldom_c (C := ⟨Tryd.prog, B, w0, _, _⟩) rfl hB hN (tk := tk1) (st := st1) (n := 5) (by omega) hst1 (by omega) (by omega) ha).mono (fun e w' h => by obtain ⟨s', b, h1, h2, h3⟩ := h; exact ⟨(s', b), h1, h2, h3⟩)) ?_
        rintro ⟨s2, sb⟩ hs2
        (try dsimp only at hs2 ⊢)
        refine lst_on rfl rfl ?_
        refine lst_not rfl rfl ?_
        refine lst_pick_true rfl rfl rfl ?_
        refine lst_nil ?_
        first | exact ex_ghost (s2, tk1 + 1, !sb) ⟨hs2, by (try dsimp only); omega, fun _ => by omega⟩ (by repeat (first | exact Sub.nil _ | refine Sub.cons rfl ?_)) (by repeat (first | exact Pck.nil _ | exact Pck.refl _ | (apply Pck.cons; focus ((repeat (first | exact Rem.here _ | apply Rem.there)); done)) | refine Pck.skip _ ?_)) | exact ex_ghost (st1, tk1, false) ⟨hst1, by (try dsimp only); omega, fun h => by cases h⟩ (by repeat (first | exact Sub.nil _ | refine Sub.cons rfl ?_)) (by repeat (first | exact Pck.nil _ | exact Pck.refl _ | (apply Pck.cons; focus ((repeat (first | exact Rem.here _ | apply Rem.there)); done)) | refine Pck.skip _ ?_))
      · skip
        refine lst_off rfl rfl rfl ?_
        refine lst_off rfl rfl rfl ?_
        refine lst_off rfl rfl rfl ?_
        refine lst_pick_false rfl rfl rfl ?_
        refine lst_nil ?_
        first | exact ex_ghost (s2, tk1 + 1, !sb) ⟨hs2, by (try dsimp only); omega, fun _ => by omega⟩ (by repeat (first | exact Sub.nil _ | refine Sub.cons rfl ?_)) (by repeat (first | exact Pck.nil _ | exact Pck.refl _ | (apply Pck.cons; focus ((repeat (first | exact Rem.here _ | apply Rem.there)); done)) | refine Pck.skip _ ?_)) | exact ex_ghost (st1, tk1, false) ⟨hst1, by (try dsimp only); omega, fun h => by cases h⟩ (by repeat (first | exact Sub.nil _ | refine Sub.cons rfl ?_)) (by repeat (first | exact Pck.nil _ | exact Pck.refl _ | (apply Pck.cons; focus ((repeat (first | exact Rem.here _ | apply Rem.there)); done)) | refine Pck.skip _ ?_))
    · skip
      rintro ⟨s3, tk3, gb⟩ ⟨hs3, htk3, hgb⟩
      (try dsimp only at hs3 htk3 hgb ⊢)
      refine ex_then ?_
      refine cod_ghost (G := Nat × Nat × Int) (fun g => g.1 < 18446744073709551616 ∧ g.2.1 ≤ 1012 + 10 * vs.length ∧ -1 ≤ g.2.2 ∧ g.2.2 < (vs.length : Int)) (fun g => [(13, .int .i64 g.2.2), (0, .pointer (some ⟨hb, 0, none⟩)), (2, .int .i64 30), (6, .pointer (some ⟨b6, 0, none⟩)), (8, .pointer (some ⟨b8, 0, none⟩)), (9, .int .i64 (n : Int)), (10, .slice (some ⟨b25, 0, none⟩) n n), (11, .slice (some ⟨b27, 0, none⟩) n n), (12, .int .i64 (vs.length : Int))]) (fun g => .blk hb (hatO nA nums.length nc (g.2.1) (g.1)) :: .row 56 4 (wA) (vs.length) (wc) (List.flatMap Vs.cells vs) :: .blk b8 (.cells [.slice (wA) (vs.length) (wc), .slice (none) (0) (0)].toArray 28 (0, 0)) :: .row 3 1 (some ⟨b25, 0, none⟩) n n (ints (List.replicate n 0)) :: .row 3 1 (some ⟨b27, 0, none⟩) n n (ints (List.replicate n 0)) :: .blk b6 (.cells [.slice none 0 0, .slice none 0 0].toArray 28 (0, 0)) :: T) ?_ ?_
      · skip
        refine cod_cond_bool rfl (fun hc1 => ?_) (fun hc1 => ?_)
        · skip
          have hk0 := hgb hc1
          refine cod_region ?_
          refine lst_move rfl rfl ?_
          refine lst_move rfl rfl ?_
          refine lst_int (v := .int .i64 ((vs.length : Int) - 1)) rfl rfl rfl (fun w => bin_sub w (wrap_i64' _ (by omega) (by omega))) ?_
          refine lst_call_pul (X := Nat × Nat) (vs := [_, _]) hb (fun y => hatO nA nums.length nc (tk3 + 1) (y.1)) (fun y => y.1 < 18446744073709551616 ∧ y.2 ≤ ((vs.length : Int) - 1 : Int).toNat) (fun y => .int .i64 (y.2 : Int)) rfl rfl F.ent6 (fun a w ha => (To_c (C := ⟨Tryd.prog, B, w0, _, _⟩) rfl hB hN (tk := tk3) (st := s3) (n := (vs.length : Int) - 1) (by omega) hs3 (by omega) ha).mono (fun e w' h => by obtain ⟨s', x, h1, h2, h3, h4⟩ := h; exact ⟨(s', x), ⟨h1, h2⟩, h3, h4⟩)) ?_
          rintro ⟨s4, x4⟩ ⟨hs4, hx4⟩
          (try dsimp only at hs4 hx4 ⊢)
          refine lst_assign rfl rfl ?_
          refine lst_nil ?_
          exact ex_ghost (s4, tk3 + 1, (x4 : Int)) ⟨hs4, by (try dsimp only); omega, by (try dsimp only); omega, by (try dsimp only); omega⟩ (by repeat (first | exact Sub.nil _ | refine Sub.cons rfl ?_)) (by repeat (first | exact Pck.nil _ | exact Pck.refl _ | (apply Pck.cons; focus ((repeat (first | exact Rem.here _ | apply Rem.there)); done)) | refine Pck.skip _ ?_))
        · skip
          refine cod_skip ?_
          exact ex_ghost (s3, tk3, -1) ⟨hs3, by (try dsimp only); omega, by (try dsimp only); omega, by (try dsimp only); omega⟩ (by repeat (first | exact Sub.nil _ | refine Sub.cons rfl ?_)) (by repeat (first | exact Pck.nil _ | exact Pck.refl _ | (apply Pck.cons; focus ((repeat (first | exact Rem.here _ | apply Rem.there)); done)) | refine Pck.skip _ ?_))
      · skip
        rintro ⟨s4, tk4, x⟩ ⟨hs4, htk4, hx1, hx2⟩
        (try dsimp only at hs4 htk4 hx1 hx2 ⊢)
        refine ex_then ?_
        refine cod_region ?_
        refine lst_field_z rfl rfl F.fi28_0 F.ti25 ?_
        refine lst_load rfl rfl F.one25 ?_
        refine lst_move rfl rfl ?_
        refine lst_struct (vs := [(0, _)]) (l' := [_, _, _, _]) rfl rfl F.ti56 F.pl56 (.cons rfl rfl (.nil _)) rfl ?_
        refine lst_litN (vs := [(0, _)]) [.int .i64 x, .int .i64 0, .int .i64 0, .int .i64 0] rfl rfl Tryd.underlying25 F.ti56 rfl rfl rfl (Lit.agg rfl rfl) ?_
        intro b48
        refine lst_append rfl rfl rfl Tryd.underlying25 F.ti56 rfl rfl rfl (by unfold maxLen; omega) (by omega) ?_
        intro A2 c2
        refine lst_field_z rfl rfl F.fi28_0 F.ti25 ?_
        refine lst_store rfl rfl F.ti25 rfl ?_
        refine lst_nil ?_
        refine ex_block_normal ?_
        refine ex_then ?_
        refine cod_region ?_
        refine lst_move rfl rfl ?_
        refine lst_int rfl rfl rfl (fun w => bin_add w (wrap_i64' _ (by omega) (by omega))) ?_
        refine lst_assign rfl rfl ?_
        refine lst_nil ?_
        have eV : vs.flatMap Vs.cells ++ [.int .i64 x, .int .i64 0, .int .i64 0, .int .i64 0] = (vs ++ [(⟨x, 0, 0, 0⟩ : Vs)]).flatMap Vs.cells := by rw [List.flatMap_append]; rfl
        (try dsimp only)
        rw [eV]
        refine ex_round' ⟨vs ++ [⟨x, 0, 0, 0⟩], s4, tk4, A2, c2⟩ ⟨by simp; omega, fun i hi => ?_, hs4, by simp; omega⟩ (by simp; omega) (by (try simp only [List.length_append, List.length_singleton]); repeat (first | exact Sub.nil _ | refine Sub.cons rfl ?_)) (by (try simp only [List.length_append, List.length_singleton]); repeat (first | exact Pck.nil _ | exact Pck.refl _ | (apply Pck.cons; focus ((repeat (first | exact Rem.here _ | apply Rem.there)); done)) | refine Pck.skip _ ?_))
        rw [List.length_append, List.length_singleton] at hi
        rw [List.getD_eq_getElem?_getD]
        rcases Nat.lt_or_ge i vs.length with h | h
        · rw [List.getElem?_append_left h, ← List.getD_eq_getElem?_getD]; exact hfr i h
        · obtain rfl : i = vs.length := by omega
          rw [List.getElem?_append_right (Nat.le_refl _), Nat.sub_self]; exact ⟨hx1, hx2⟩
  · skip
    obtain hvl : vs.length = n := by omega
    rw [hvl]
    refine cod_know (fun a w ha => row_some (ha.own _ (InR.mem (A := wA))) (by omega)) ?_
    rintro ⟨gv, rfl⟩
    clear hk
    have hDn := Dn.start (vs := vs) (by omega) hfr
    rw [hvl] at hDn
    refine cod_exit ?_
    refine ex_then_exit ?_
    refine ex_then_exit ?_
    refine ex_block_exit ?_
    refine ex_then ?_
    refine cod_seq ?_
    refine cod_seq ?_
    refine cod_region ?_
    refine lst_move rfl rfl ?_
    refine lst_int (v := .int .i64 ((n : Int) - 1)) rfl rfl rfl (fun w => bin_sub w (wrap_i64' _ (by omega) (by omega))) ?_
    refine lst_assign rfl rfl ?_
    refine lst_nil ?_
    refine ex_then ?_
    refine cod_block ?_
    refine cod_loop' (G := Nat × List Vs × List Nat × List Nat × Nat × Nat) (fun g => Dn g.2.1 g.2.2.1 g.2.2.2.1 g.1 ∧ g.2.1.length = n ∧ g.2.2.2.2.1 < 18446744073709551616 ∧ g.2.2.2.2.2 ≤ 1100 + 10 * (n - g.1)) (fun g => g.1) (fun g => [(0, .pointer (some ⟨hb, 0, none⟩)), (2, .int .i64 30), (6, .pointer (some ⟨b6, 0, none⟩)), (8, .pointer (some ⟨b8, 0, none⟩)), (9, .int .i64 (n : Int)), (10, .slice (some ⟨b25, 0, none⟩) n n), (11, .slice (some ⟨b27, 0, none⟩) n n), (14, .int .i64 ((g.1 : Int) - 1))]) (fun g => .blk hb (hatO nA nums.length nc (g.2.2.2.2.2) (g.2.2.2.2.1)) :: .row 56 4 ((some ⟨gv, 0, none⟩)) (n) (wc) (List.flatMap Vs.cells g.2.1) :: .blk b8 (.cells [.slice ((some ⟨gv, 0, none⟩)) (n) (wc), .slice (none) (0) (0)].toArray 28 (0, 0)) :: .row 3 1 (some ⟨b25, 0, none⟩) n n (ints g.2.2.1) :: .row 3 1 (some ⟨b27, 0, none⟩) n n (ints g.2.2.2.1) :: .blk b6 (.cells [.slice none 0 0, .slice none 0 0].toArray 28 (0, 0)) :: T) (⟨n, vs, (List.replicate n 0), (List.replicate n 0), st1, tk1⟩) ⟨hDn, hvl, hst1, by (try dsimp only); omega⟩ (by repeat (first | exact Sub.nil _ | refine Sub.cons rfl ?_)) (by repeat (first | exact Pck.nil _ | exact Pck.refl _ | (apply Pck.cons; focus ((repeat (first | exact Rem.here _ | apply Rem.there)); done)) | refine Pck.skip _ ?_)) ?_
    rintro ⟨m, vs, ws, ss, st1, tk1⟩ ⟨hD, hvl, hst1, htk1⟩
    (try dsimp only at hD hvl hst1 htk1 ⊢)
    refine cod_seq ?_
    refine cod_seq ?_
    refine cod_region ?_
    refine lst_move rfl rfl ?_
    refine lst_int rfl rfl rfl bin_geq ?_
    refine lst_nil ?_
    refine ex_then ?_
    refine cod_cond_dec rfl (fun hc2 => ?_) (fun hc2 => ?_)
    · skip
      obtain ⟨i, rfl⟩ : ∃ i, m = i + 1 := ⟨m - 1, by omega⟩
      have hi1 := hD.hm
      have hin : i < n := by omega
      have hiv : i < vs.length := by omega
      have hwl : ws.length = n := hD.wl.trans hvl
      have hsl : ss.length = n := hD.sl.trans hvl
      rw [show ((i + 1 : Nat) : Int) - 1 = (i : Int) by omega]
      have hk0 : kidsK vs (i + 1) i = [] := kidsK_none fun j hj => by
        have := (hD.fr j (by omega)).2
        omega
      have hfi := hD.fr i hiv
      have hbig := hD.big i
      refine cod_skip ?_
      refine ex_then ?_
      refine cod_seq ?_
      refine cod_block ?_
      refine cod_seq ?_
      refine cod_region ?_
      refine lst_assign rfl rfl ?_
      refine lst_nil ?_
      refine ex_then ?_
      refine cod_seq ?_
      refine cod_seq ?_
      refine cod_region ?_
      refine lst_move rfl rfl ?_
      refine lst_int rfl rfl rfl (fun w => bin_add w (wrap_i64' _ (by omega) (by omega))) ?_
      refine lst_assign rfl rfl ?_
      refine lst_nil ?_
      refine ex_then ?_
      refine cod_block ?_
      refine cod_loop' (G := Nat) (fun g => i + 1 ≤ g ∧ g ≤ n) (fun g => n - g) (fun g => [(0, .pointer (some ⟨hb, 0, none⟩)), (2, .int .i64 30), (6, .pointer (some ⟨b6, 0, none⟩)), (8, .pointer (some ⟨b8, 0, none⟩)), (9, .int .i64 (n : Int)), (10, .slice (some ⟨b25, 0, none⟩) n n), (11, .slice (some ⟨b27, 0, none⟩) n n), (14, .int .i64 (i : Int)), (15, .bool (decide (kidsK vs g i ≠ []))), (16, .int .i64 (g : Int))]) (fun g => .blk hb (hatO nA nums.length nc (tk1) (st1)) :: .row 56 4 ((some ⟨gv, 0, none⟩)) (n) (wc) (List.flatMap Vs.cells vs) :: .blk b8 (.cells [.slice ((some ⟨gv, 0, none⟩)) (n) (wc), .slice (none) (0) (0)].toArray 28 (0, 0)) :: .row 3 1 (some ⟨b25, 0, none⟩) n n (ints ws) :: .row 3 1 (some ⟨b27, 0, none⟩) n n (ints ss) :: .blk b6 (.cells [.slice none 0 0, .slice none 0 0].toArray 28 (0, 0)) :: T) (i + 1) ⟨Nat.le_refl _, by omega⟩ (by (try dsimp only); rw [hk0]; repeat (first | exact Sub.nil _ | refine Sub.cons rfl ?_)) (by repeat (first | exact Pck.nil _ | exact Pck.refl _ | (apply Pck.cons; focus ((repeat (first | exact Rem.here _ | apply Rem.there)); done)) | refine Pck.skip _ ?_)) ?_
      rintro k ⟨hk1, hk2⟩
      (try dsimp only at hk1 hk2 ⊢)
      refine cod_seq ?_
      refine cod_seq ?_
      refine cod_region ?_
      refine lst_move rfl rfl ?_
      refine lst_move rfl rfl ?_
      refine lst_int rfl rfl rfl bin_lss ?_
      refine lst_nil ?_
      refine ex_then ?_
      refine cod_cond_dec rfl (fun hc3 => ?_) (fun hc3 => ?_)
      · skip
        have hk' : k < n := by omega
        refine cod_skip ?_
        refine ex_then ?_
        refine cod_seq ?_
        refine cod_block ?_
        refine cod_region ?_
        refine lst_cut1 11 74 (.bool (decide (kidsK vs (k + 1) i ≠ []))) ?_ ?_
        · skip
          refine lst_move rfl rfl ?_
          refine lst_move rfl rfl ?_
          refine lst_split_bool (t := 65) rfl (fun hg65 => ?_) (fun hg65 => ?_)
          · skip
            refine lst_off rfl rfl rfl ?_
            refine lst_off rfl rfl rfl ?_
            refine lst_off rfl rfl rfl ?_
            refine lst_off rfl rfl rfl ?_
            refine lst_off rfl rfl rfl ?_
            refine lst_off rfl rfl rfl ?_
            refine lst_off rfl rfl rfl ?_
            refine lst_off rfl rfl rfl ?_
            refine lst_pick_true rfl rfl rfl ?_
            refine lst_nil ?_
            exact ex_cut (.cons (by rw [kidsK_succ]; simp_all [look] <;> split <;> simp_all) (by repeat (first | exact Sub.nil _ | refine Sub.cons rfl ?_))) (by repeat (first | exact List.Sublist.refl _ | exact List.nil_sublist _ | refine List.Sublist.cons_cons _ ?_ | refine List.Sublist.cons _ ?_))
          · skip
            refine lst_on rfl rfl ?_
            refine lst_field_z rfl rfl F.fi28_0 F.ti25 ?_
            refine lst_on rfl rfl ?_
            refine lst_load rfl rfl F.one25 ?_
            refine lst_on rfl rfl ?_
            refine lst_move rfl rfl ?_
            refine lst_on rfl rfl ?_
            refine lst_index (j := k) rfl rfl rfl Tryd.underlying25 F.ti56 rfl hk' ?_
            refine lst_on rfl rfl ?_
            refine lst_field rfl rfl F.fi56_0 F.ti3 ?_
            refine lst_on rfl rfl ?_
            refine lst_load_row (v := .int .i64 ((vs.getD k default).fr)) rfl rfl F.one3 rfl (vs_get (by omega) rfl) ?_
            refine lst_on rfl rfl ?_
            refine lst_move rfl rfl ?_
            refine lst_on rfl rfl ?_
            refine lst_int rfl rfl rfl bin_eql ?_
            refine lst_pick_false rfl rfl rfl ?_
            refine lst_nil ?_
            exact ex_cut (.cons (by rw [kidsK_succ]; simp_all [look] <;> split <;> simp_all) (by repeat (first | exact Sub.nil _ | refine Sub.cons rfl ?_))) (by repeat (first | exact List.Sublist.refl _ | exact List.nil_sublist _ | refine List.Sublist.cons_cons _ ?_ | refine List.Sublist.cons _ ?_))
        refine lst_assign rfl rfl ?_
        refine lst_nil ?_
        refine ex_block_normal ?_
        refine ex_then ?_
        refine cod_region ?_
        refine lst_move rfl rfl ?_
        refine lst_int rfl rfl rfl (fun w => bin_add w (wrap_i64' _ (by omega) (by omega))) ?_
        refine lst_assign rfl rfl ?_
        refine lst_nil ?_
        refine ex_round' (k + 1) ⟨by omega, by omega⟩ (by (try dsimp only); omega) (by repeat (first | exact Sub.nil _ | refine Sub.cons rfl ?_)) (by repeat (first | exact Pck.nil _ | exact Pck.refl _ | (apply Pck.cons; focus ((repeat (first | exact Rem.here _ | apply Rem.there)); done)) | refine Pck.skip _ ?_))
      · skip
        obtain rfl : k = n := by omega
        have hkk : kidsK vs k i = kids vs i := by rw [← hvl]; rfl
        rw [hkk]
        clear hk1 hk2
        refine cod_exit ?_
        refine ex_then_exit ?_
        refine ex_then_exit ?_
        refine ex_block_exit ?_
        refine ex_then ?_
        refine cod_seq ?_
        refine cod_region ?_
        refine lst_assign rfl rfl ?_
        refine lst_nil ?_
        refine ex_then ?_
        refine cod_seq ?_
        refine cod_seq ?_
        refine cod_region ?_
        refine lst_move rfl rfl ?_
        refine lst_nil ?_
        refine ex_then ?_
        refine cod_ghost (G := List Nat × Nat × Nat × Nat) (fun g => (kids vs i ≠ [] ∧ g.1 = ss ∨ kids vs i = [] ∧ ∃ x, x ≤ 10 ∧ g.1 = ss.set i x) ∧ g.2.1 ≤ 4 ∧ g.2.2.1 < 18446744073709551616 ∧ g.2.2.2 ≤ 1102 + 10 * (k - (i + 1))) (fun g => [(0, .pointer (some ⟨hb, 0, none⟩)), (2, .int .i64 30), (6, .pointer (some ⟨b6, 0, none⟩)), (8, .pointer (some ⟨b8, 0, none⟩)), (9, .int .i64 (k : Int)), (10, .slice (some ⟨b25, 0, none⟩) k k), (11, .slice (some ⟨b27, 0, none⟩) k k), (14, .int .i64 (i : Int)), (17, .int .i64 (g.2.1 : Int))]) (fun g => .blk hb (hatO nA nums.length nc (g.2.2.2) (g.2.2.1)) :: .row 56 4 ((some ⟨gv, 0, none⟩)) (k) (wc) (List.flatMap Vs.cells vs) :: .blk b8 (.cells [.slice ((some ⟨gv, 0, none⟩)) (k) (wc), .slice (none) (0) (0)].toArray 28 (0, 0)) :: .row 3 1 (some ⟨b25, 0, none⟩) k k (ints ws) :: .row 3 1 (some ⟨b27, 0, none⟩) k k (ints g.1) :: .blk b6 (.cells [.slice none 0 0, .slice none 0 0].toArray 28 (0, 0)) :: T) ?_ ?_
        · skip
          refine cod_cond_dec rfl (fun hc4 => ?_) (fun hc4 => ?_)
          · skip
            refine cod_region ?_
            refine lst_move rfl rfl ?_
            refine lst_move rfl rfl ?_
            refine lst_call_pul (X := Nat × Nat) (vs := [_, _]) hb (fun y => hatO nA nums.length nc (tk1 + 1) (y.1)) (fun y => y.1 < 18446744073709551616 ∧ y.2 ≤ ((4 : Int) : Int).toNat) (fun y => .int .i64 (y.2 : Int)) rfl rfl F.ent6 (fun a w ha => (To_c (C := ⟨Tryd.prog, B, w0, _, _⟩) rfl hB hN (tk := tk1) (st := st1) (n := (4 : Int)) (by omega) hst1 (by omega) ha).mono (fun e w' h => by obtain ⟨s', x, h1, h2, h3, h4⟩ := h; exact ⟨(s', x), ⟨h1, h2⟩, h3, h4⟩)) ?_
            rintro ⟨s4, x4⟩ ⟨hs4, hx4⟩
            (try dsimp only at hs4 hx4 ⊢)
            refine lst_lit (vs := [(0, _), (1, _), (2, _), (3, _), (4, _)]) rfl rfl Tryd.underlying22 F.ti3 rfl rfl rfl ?_
            intro b79
            refine lst_call_pul (X := Nat × Nat) (vs := [_, _]) hb (fun y => hatO nA nums.length nc (tk1 + 1 + 1) (y.1)) (fun y => y.1 < 18446744073709551616 ∧ y.2 ∈ [0, 0, 1, 2, x4]) (fun y => .int .i64 (y.2 : Int)) rfl rfl F.ent17 (fun a w ha => (One_c (C := ⟨Tryd.prog, B, w0, _, _⟩) rfl hB hN (tk := tk1 + 1) (st := s4) (A := some ⟨b79, 0, none⟩) (c := 5) (l := [0, 0, 1, 2, x4]) (by omega) hs4 (by simp) (by simp) (Rds.blk (b := b79) (ct := 3) (fun _ => rfl) (by simp [ncell])) ha).mono (fun e w' h => by obtain ⟨s', x, h1, h2, h3, h4⟩ := h; exact ⟨(s', x), ⟨h1, h2⟩, h3, h4⟩)) ?_
            rintro ⟨s5, x5⟩ ⟨hs5, hx5⟩
            (try dsimp only at hs5 hx5 ⊢)
            have hx54 : x5 ≤ 4 := by simp at hx5; omega
            refine lst_assign rfl rfl ?_
            refine lst_nil ?_
            exact ex_ghost (ss, x5, s5, tk1 + 1 + 1) ⟨.inl ⟨hc4, rfl⟩, hx54, hs5, by (try dsimp only); omega⟩ (by repeat (first | exact Sub.nil _ | refine Sub.cons rfl ?_)) (by repeat (first | exact Pck.nil _ | exact Pck.refl _ | (apply Pck.cons; focus ((repeat (first | exact Rem.here _ | apply Rem.there)); done)) | refine Pck.skip _ ?_))
          · skip
            refine cod_region ?_
            refine lst_move rfl rfl ?_
            refine lst_move rfl rfl ?_
            refine lst_move rfl rfl ?_
            refine lst_move rfl rfl ?_
            refine lst_int (v := .int .i64 10) rfl rfl rfl (fun w => bin_quo w (by decide) (by decide)) ?_
            refine lst_max rfl rfl rfl ?_
            rw [show (if (1 : Int) < 10 then (10 : Int) else 1) = 10 from rfl]
            refine lst_call_pul (X := Nat × Nat) (vs := [_, _]) hb (fun y => hatO nA nums.length nc (tk1 + 1) (y.1)) (fun y => y.1 < 18446744073709551616 ∧ y.2 ≤ ((10 : Int) : Int).toNat) (fun y => .int .i64 (y.2 : Int)) rfl rfl F.ent6 (fun a w ha => (To_c (C := ⟨Tryd.prog, B, w0, _, _⟩) rfl hB hN (tk := tk1) (st := st1) (n := (10 : Int)) (by omega) hst1 (by omega) ha).mono (fun e w' h => by obtain ⟨s', x, h1, h2, h3, h4⟩ := h; exact ⟨(s', x), ⟨h1, h2⟩, h3, h4⟩)) ?_
            rintro ⟨s4, x4⟩ ⟨hs4, hx4⟩
            (try dsimp only at hs4 hx4 ⊢)
            have hx410 : x4 ≤ 10 := by omega
            refine lst_index (j := i) rfl rfl rfl Tryd.underlying22 F.ti3 rfl hin ?_
            refine lst_store_row rfl rfl F.ti3 rfl (splice_intsT (l := ss) (by omega)) (by repeat (first | exact .head _ | apply Upd.tail)) ?_
            refine lst_nil ?_
            exact ex_ghost (ss.set i x4, 0, s4, tk1 + 1) ⟨.inr ⟨Decidable.not_not.1 hc4, x4, hx410, rfl⟩, Nat.zero_le _, hs4, by (try dsimp only); omega⟩ (by repeat (first | exact Sub.nil _ | refine Sub.cons rfl ?_)) (by repeat (first | exact Pck.nil _ | exact Pck.refl _ | (apply Pck.cons; focus ((repeat (first | exact Rem.here _ | apply Rem.there)); done)) | refine Pck.skip _ ?_))
        · skip
          rintro ⟨ss1, lost, s5, tk5⟩ ⟨hss, hlost, hs5, htk5⟩
          (try dsimp only at hss hlost hs5 htk5 ⊢)
          have hs1l : ss1.length = k := by
            rcases hss with ⟨_, rfl⟩ | ⟨_, x, _, rfl⟩
            · exact hsl
            · rw [List.length_set]; exact hsl
          have hb1 : ss1.getD i 0 ≤ 200 := by
            rcases hss with ⟨_, rfl⟩ | ⟨_, x, _, rfl⟩
            · omega
            · rw [getN_set' (by omega), if_pos rfl]; omega
          obtain ⟨wq, hw0⟩ : ∃ wq, min 40 (ss1.getD i 0 + lost) = wq := ⟨_, rfl⟩
          refine ex_then ?_
          refine cod_seq ?_
          refine cod_region ?_
          refine lst_move rfl rfl ?_
          refine lst_move rfl rfl ?_
          refine lst_move rfl rfl ?_
          refine lst_move rfl rfl ?_
          refine lst_index (j := i) rfl rfl rfl Tryd.underlying22 F.ti3 rfl hin ?_
          refine lst_load_row (v := .int .i64 (((ss1.getD i 0 : Nat) : Int))) rfl rfl F.one3 rfl (ints_get' (by omega)) ?_
          refine lst_move rfl rfl ?_
          refine lst_int rfl rfl rfl (fun w => bin_add w (wrap_i64' _ (by omega) (by omega))) ?_
          refine lst_min rfl rfl rfl ?_
          have hmin : (if ((ss1.getD i 0 : Nat) : Int) + (lost : Int) < 40 then ((ss1.getD i 0 : Nat) : Int) + (lost : Int) else 40) = (wq : Int) := by rw [← hw0]; split <;> omega
          rw [hmin]
          refine lst_index (j := i) rfl rfl rfl Tryd.underlying22 F.ti3 rfl hin ?_
          refine lst_store_row rfl rfl F.ti3 rfl (splice_intsT (l := ws) (by omega)) (by repeat (first | exact .head _ | apply Upd.tail)) ?_
          have hgw : (ints (ws.set i wq))[0 + i * 1]? = some (.int .i64 (wq : Int)) := by
            have := ints_get' (l := ws.set i wq) (i := i) (by rw [List.length_set]; omega)
            rw [getN_set' (by omega), if_pos rfl] at this
            exact this
          refine lst_nil ?_
          refine ex_then ?_
          refine cod_seq ?_
          refine any_begin [] F.follows 10 rfl [false, false, false, false, false, false, false, false, false, false] rfl ?_
          refine any_take (listed' := [true, false, false, false, false, false, false, false, false, false].toArray) 0 rfl rfl rfl (by kernel_rfl) (by kernel_rfl) (by kernel_rfl) (by repeat (first | exact List.Sublist.refl _ | exact List.nil_sublist _ | refine List.Sublist.cons_cons _ ?_ | refine List.Sublist.cons _ ?_)) (yld_move rfl) rfl ?_
          refine any_take (listed' := [true, true, false, false, false, false, false, false, false, false].toArray) 1 rfl rfl rfl (by kernel_rfl) (by kernel_rfl) (by kernel_rfl) (by repeat (first | exact List.Sublist.refl _ | exact List.nil_sublist _ | refine List.Sublist.cons_cons _ ?_ | refine List.Sublist.cons _ ?_)) (yld_move rfl) rfl ?_
          refine any_take (listed' := [true, true, true, false, false, false, false, false, false, false].toArray) 2 rfl rfl rfl (by kernel_rfl) (by kernel_rfl) (by kernel_rfl) (by repeat (first | exact List.Sublist.refl _ | exact List.nil_sublist _ | refine List.Sublist.cons_cons _ ?_ | refine List.Sublist.cons _ ?_)) (yld_index (j := i) rfl rfl Tryd.underlying22 F.ti3 rfl hin) rfl ?_
          refine any_take (listed' := [true, true, true, true, false, false, false, false, false, false].toArray) 3 rfl rfl rfl (by kernel_rfl) (by kernel_rfl) (by kernel_rfl) (by repeat (first | exact List.Sublist.refl _ | exact List.nil_sublist _ | refine List.Sublist.cons_cons _ ?_ | refine List.Sublist.cons _ ?_)) (yld_load_at (v := .int .i64 ((wq : Int))) rfl F.one3 (fun a w ha => row_cell ha (InR.mem (A := some ⟨b25, 0, none⟩)) rfl (hgw))) rfl ?_
          refine any_take (listed' := [true, true, true, true, true, false, false, false, false, false].toArray) 4 rfl rfl rfl (by kernel_rfl) (by kernel_rfl) (by kernel_rfl) (by repeat (first | exact List.Sublist.refl _ | exact List.nil_sublist _ | refine List.Sublist.cons_cons _ ?_ | refine List.Sublist.cons _ ?_)) (yld_move rfl) rfl ?_
          refine any_take (listed' := [true, true, true, true, true, true, false, false, false, false].toArray) 5 rfl rfl rfl (by kernel_rfl) (by kernel_rfl) (by kernel_rfl) (by repeat (first | exact List.Sublist.refl _ | exact List.nil_sublist _ | refine List.Sublist.cons_cons _ ?_ | refine List.Sublist.cons _ ?_)) (yld_move rfl) rfl ?_
          refine any_take (listed' := [true, true, true, true, true, true, true, false, false, false].toArray) 6 rfl rfl rfl (by kernel_rfl) (by kernel_rfl) (by kernel_rfl) (by repeat (first | exact List.Sublist.refl _ | exact List.nil_sublist _ | refine List.Sublist.cons_cons _ ?_ | refine List.Sublist.cons _ ?_)) (yld_index (j := i) rfl rfl Tryd.underlying22 F.ti3 rfl hin) rfl ?_
          refine any_take (listed' := [true, true, true, true, true, true, true, true, false, false].toArray) 7 rfl rfl rfl (by kernel_rfl) (by kernel_rfl) (by kernel_rfl) (by repeat (first | exact List.Sublist.refl _ | exact List.nil_sublist _ | refine List.Sublist.cons_cons _ ?_ | refine List.Sublist.cons _ ?_)) (yld_load_at (v := .int .i64 (((ss1.getD i 0 : Nat) : Int))) rfl F.one3 (fun a w ha => row_cell ha (InR.mem (A := some ⟨b27, 0, none⟩)) rfl (ints_get' (by omega)))) rfl ?_
          refine any_take (listed' := [true, true, true, true, true, true, true, true, true, false].toArray) 8 rfl rfl rfl (by kernel_rfl) (by kernel_rfl) (by kernel_rfl) (by repeat (first | exact List.Sublist.refl _ | exact List.nil_sublist _ | refine List.Sublist.cons_cons _ ?_ | refine List.Sublist.cons _ ?_)) (yld_int (v := .int .i64 ((wq : Int) - ((ss1.getD i 0 : Nat) : Int))) rfl rfl (fun w => bin_sub w (wrap_i64' _ (by omega) (by omega)))) rfl ?_
          refine any_take (listed' := [true, true, true, true, true, true, true, true, true, true].toArray) 9 rfl rfl rfl (by kernel_rfl) (by kernel_rfl) (by kernel_rfl) (by repeat (first | exact List.Sublist.refl _ | exact List.nil_sublist _ | refine List.Sublist.cons_cons _ ?_ | refine List.Sublist.cons _ ?_)) (yld_assign rfl) rfl ?_
          refine any_done rfl (by kernel_rfl) ?_
          refine ex_then ?_
          refine cod_seq ?_
          refine cod_seq ?_
          refine cod_region ?_
          refine lst_move rfl rfl ?_
          refine lst_int rfl rfl rfl bin_lss ?_
          refine lst_nil ?_
          refine ex_then ?_
          refine cod_cond_dec rfl (fun hc5 => ?_) (fun hc5 => ?_)
          · skip
            refine cod_seq ?_
            refine cod_region ?_
            refine lst_struct (vs := [(0, _), (1, _)]) (l' := [_, _, _, _]) rfl rfl F.ti56 F.pl56 (.cons rfl rfl (.cons rfl rfl (.nil _))) rfl ?_
            refine lst_litN (vs := [(0, _)]) [.int .i64 (-1), .int .i64 5, .int .i64 0, .int .i64 0] rfl rfl Tryd.underlying25 F.ti56 rfl rfl rfl (Lit.agg rfl rfl) ?_
            intro b111
            refine lst_struct (vs := [(0, _)]) (l' := [_, _]) rfl rfl F.ti28 F.pl28 (.cons rfl rfl (.nil _)) rfl ?_
            refine lst_lit (vs := [(0, _)]) rfl rfl Tryd.underlying22 F.ti3 rfl rfl rfl ?_
            intro b113
            refine lst_store rfl rfl F.ti28 rfl ?_
            refine lst_as_rowN (b := b111) 4 1 rfl (by decide) (by repeat (first | exact .head _ | apply Upd.tail)) ?_
            refine lst_as_rowN (b := b113) 1 1 rfl (by decide) (by repeat (first | exact .head _ | apply Upd.tail)) ?_
            refine lst_assign rfl rfl ?_
            refine lst_nil ?_
            refine ex_then ?_
            refine cod_ret ?_
            refine ex_then_ret ?_
            refine ex_block_ret ?_
            refine ex_then_ret ?_
            refine ex_then_ret ?_
            refine ex_block_ret ?_
            refine ex_then_ret ?_
            exact ex_ret rfl (fun a w ha => res_cellN_tmp rfl rfl rfl F.agg28 F.ti28 rfl ha) (fun _ _ ha' => ⟨tk5, s5, [⟨-1, 5, 0, 0⟩], [], [0], some ⟨b111, 0, none⟩, 1, none, 0, some ⟨b113, 0, none⟩, 1, by omega, hs5, melt_zero, rfl, ha.back ((At.row0 (e := 59) (size := 4) ha').pck (by repeat (first | exact Pck.nil _ | exact Pck.refl _ | (apply Pck.cons; focus ((repeat (first | exact Rem.here _ | apply Rem.there)); done)) | refine Pck.skip _ ?_)))⟩)
          · skip
            obtain ⟨lo1, hlo1⟩ : ∃ lo1 : Nat, wq = ss1.getD i 0 + lo1 := ⟨wq - ss1.getD i 0, by omega⟩
            rw [show (wq : Int) - ((ss1.getD i 0 : Nat) : Int) = (lo1 : Int) by omega]
            have hlo4 : lo1 ≤ 4 := by omega
            refine cod_skip ?_
            refine ex_then ?_
            refine cod_seq ?_
            refine cod_seq ?_
            refine cod_region ?_
            refine lst_field_z rfl rfl F.fi28_0 F.ti25 ?_
            refine lst_load rfl rfl F.one25 ?_
            refine lst_move rfl rfl ?_
            refine lst_index (j := i) rfl rfl rfl Tryd.underlying25 F.ti56 rfl hin ?_
            refine lst_field rfl rfl F.fi56_0 F.ti3 ?_
            refine lst_load_row (v := .int .i64 ((vs.getD i default).fr)) rfl rfl F.one3 rfl (vs_get (by omega) rfl) ?_
            refine lst_assign rfl rfl ?_
            refine lst_nil ?_
            refine ex_then ?_
            refine cod_seq ?_
            refine cod_region ?_
            refine lst_move rfl rfl ?_
            refine lst_int rfl rfl rfl bin_geq ?_
            refine lst_nil ?_
            refine ex_then ?_
            refine cod_ghost (G := List Nat) (fun g => ((vs.getD i default).fr < 0 ∧ g = ss1 ∨ ∃ p : Nat, (vs.getD i default).fr = (p : Int) ∧ g = ss1.set p (ss1.getD p 0 + wq)) ∧ g.length = k) (fun g => [(0, .pointer (some ⟨hb, 0, none⟩)), (2, .int .i64 30), (6, .pointer (some ⟨b6, 0, none⟩)), (8, .pointer (some ⟨b8, 0, none⟩)), (9, .int .i64 (k : Int)), (10, .slice (some ⟨b25, 0, none⟩) k k), (11, .slice (some ⟨b27, 0, none⟩) k k), (14, .int .i64 (i : Int)), (17, .int .i64 (lo1 : Int))]) (fun g => .blk hb (hatO nA nums.length nc (tk5) (s5)) :: .row 56 4 ((some ⟨gv, 0, none⟩)) (k) (wc) (List.flatMap Vs.cells vs) :: .blk b8 (.cells [.slice ((some ⟨gv, 0, none⟩)) (k) (wc), .slice (none) (0) (0)].toArray 28 (0, 0)) :: .row 3 1 (some ⟨b25, 0, none⟩) k k (ints (ws.set i wq)) :: .row 3 1 (some ⟨b27, 0, none⟩) k k (ints g) :: .blk b6 (.cells [.slice none 0 0, .slice none 0 0].toArray 28 (0, 0)) :: T) ?_ ?_
            · skip
              refine cod_cond_dec rfl (fun hc6 => ?_) (fun hc6 => ?_)
              · skip
                obtain ⟨p, hp⟩ : ∃ p : Nat, (vs.getD i default).fr = (p : Int) := ⟨(vs.getD i default).fr.toNat, by omega⟩
                have hpi : p < i := by omega
                rw [hp]
                have hbp : ss1.getD p 0 ≤ 200 := by
                  have hb2 := hD.big p
                  rcases hss with ⟨_, rfl⟩ | ⟨_, x, _, rfl⟩
                  · omega
                  · rw [getN_set' (by omega), if_neg (by omega)]; omega
                refine any_begin [.r (some ⟨b27, 0, none⟩)] F.follows 13 rfl [false, false, false, false, false, false, false, false, false, false, false, false, false] rfl ?_
                refine any_take (listed' := [true, false, false, false, false, false, false, false, false, false, false, false, false].toArray) 0 rfl rfl rfl (by kernel_rfl) (by kernel_rfl) (by kernel_rfl) (by repeat (first | exact List.Sublist.refl _ | exact List.nil_sublist _ | refine List.Sublist.cons_cons _ ?_ | refine List.Sublist.cons _ ?_)) (yld_move rfl) rfl ?_
                refine any_take (listed' := [true, true, false, false, false, false, false, false, false, false, false, false, false].toArray) 1 rfl rfl rfl (by kernel_rfl) (by kernel_rfl) (by kernel_rfl) (by repeat (first | exact List.Sublist.refl _ | exact List.nil_sublist _ | refine List.Sublist.cons_cons _ ?_ | refine List.Sublist.cons _ ?_)) (yld_move rfl) rfl ?_
                refine any_take (listed' := [true, true, true, false, false, false, false, false, false, false, false, false, false].toArray) 2 rfl rfl rfl (by kernel_rfl) (by kernel_rfl) (by kernel_rfl) (by repeat (first | exact List.Sublist.refl _ | exact List.nil_sublist _ | refine List.Sublist.cons_cons _ ?_ | refine List.Sublist.cons _ ?_)) (yld_move rfl) rfl ?_
                refine any_take (listed' := [true, true, true, true, false, false, false, false, false, false, false, false, false].toArray) 3 rfl rfl rfl (by kernel_rfl) (by kernel_rfl) (by kernel_rfl) (by repeat (first | exact List.Sublist.refl _ | exact List.nil_sublist _ | refine List.Sublist.cons_cons _ ?_ | refine List.Sublist.cons _ ?_)) (yld_move rfl) rfl ?_
                refine any_take (listed' := [true, true, true, true, true, false, false, false, false, false, false, false, false].toArray) 4 rfl rfl rfl (by kernel_rfl) (by kernel_rfl) (by kernel_rfl) (by repeat (first | exact List.Sublist.refl _ | exact List.nil_sublist _ | refine List.Sublist.cons_cons _ ?_ | refine List.Sublist.cons _ ?_)) (yld_index (j := p) rfl rfl Tryd.underlying22 F.ti3 rfl (by omega)) rfl ?_
                refine any_take (listed' := [true, true, true, true, true, false, true, false, false, false, false, false, false].toArray) 6 rfl rfl rfl (by kernel_rfl) (by kernel_rfl) (by kernel_rfl) (by repeat (first | exact List.Sublist.refl _ | exact List.nil_sublist _ | refine List.Sublist.cons_cons _ ?_ | refine List.Sublist.cons _ ?_)) (yld_move rfl) rfl ?_
                refine any_take (listed' := [true, true, true, true, true, false, true, true, false, false, false, false, false].toArray) 7 rfl rfl rfl (by kernel_rfl) (by kernel_rfl) (by kernel_rfl) (by repeat (first | exact List.Sublist.refl _ | exact List.nil_sublist _ | refine List.Sublist.cons_cons _ ?_ | refine List.Sublist.cons _ ?_)) (yld_move rfl) rfl ?_
                refine any_take (listed' := [true, true, true, true, true, false, true, true, true, false, false, false, false].toArray) 8 rfl rfl rfl (by kernel_rfl) (by kernel_rfl) (by kernel_rfl) (by repeat (first | exact List.Sublist.refl _ | exact List.nil_sublist _ | refine List.Sublist.cons_cons _ ?_ | refine List.Sublist.cons _ ?_)) (yld_index (j := i) rfl rfl Tryd.underlying22 F.ti3 rfl hin) rfl ?_
                refine any_take (listed' := [true, true, true, true, true, false, true, true, true, true, false, false, false].toArray) 9 rfl rfl rfl (by kernel_rfl) (by kernel_rfl) (by kernel_rfl) (by repeat (first | exact List.Sublist.refl _ | exact List.nil_sublist _ | refine List.Sublist.cons_cons _ ?_ | refine List.Sublist.cons _ ?_)) (yld_load_at (v := .int .i64 ((wq : Int))) rfl F.one3 (fun a w ha => row_cell ha (InR.mem (A := some ⟨b25, 0, none⟩)) rfl (hgw))) rfl ?_
                refine any_one (listed' := [true, true, true, true, true, true, true, true, true, true, false, false, false].toArray) 5 (by kernel_rfl) rfl rfl ?_
                refine lst_load_row (v := .int .i64 (((ss1.getD p 0 : Nat) : Int))) rfl rfl F.one3 rfl (ints_get' (by omega)) ?_
                refine lst_nil ?_
                refine any_next (by repeat (first | exact List.Sublist.refl _ | exact List.nil_sublist _ | refine List.Sublist.cons_cons _ ?_ | refine List.Sublist.cons _ ?_)) ?_
                refine any_take (listed' := [true, true, true, true, true, true, true, true, true, true, true, false, false].toArray) 10 rfl rfl rfl (by kernel_rfl) (by kernel_rfl) (by kernel_rfl) (by repeat (first | exact List.Sublist.refl _ | exact List.nil_sublist _ | refine List.Sublist.cons_cons _ ?_ | refine List.Sublist.cons _ ?_)) (yld_int (v := .int .i64 ((ss1.getD p 0 + wq : Nat) : Int)) rfl rfl (fun w => bin_add w (by rw [wrap_i64' _ (by omega) (by omega)]; omega))) rfl ?_
                refine any_take (listed' := [true, true, true, true, true, true, true, true, true, true, true, true, false].toArray) 11 rfl rfl rfl (by kernel_rfl) (by kernel_rfl) (by kernel_rfl) (by repeat (first | exact List.Sublist.refl _ | exact List.nil_sublist _ | refine List.Sublist.cons_cons _ ?_ | refine List.Sublist.cons _ ?_)) (yld_index (j := p) rfl rfl Tryd.underlying22 F.ti3 rfl (by omega)) rfl ?_
                refine any_one (listed' := [true, true, true, true, true, true, true, true, true, true, true, true, true].toArray) 12 (by kernel_rfl) rfl rfl ?_
                refine lst_store_row rfl rfl F.ti3 rfl (splice_intsT (l := ss1) (by omega)) (by repeat (first | exact .head _ | apply Upd.tail)) ?_
                refine lst_nil ?_
                refine any_next (by repeat (first | exact List.Sublist.refl _ | exact List.nil_sublist _ | refine List.Sublist.cons_cons _ ?_ | refine List.Sublist.cons _ ?_)) ?_
                refine any_done rfl (by kernel_rfl) ?_
                exact ex_ghost (ss1.set p (ss1.getD p 0 + wq)) ⟨.inr ⟨p, rfl, rfl⟩, by rw [List.length_set]; exact hs1l⟩ (by repeat (first | exact Sub.nil _ | refine Sub.cons rfl ?_)) (by repeat (first | exact Pck.nil _ | exact Pck.refl _ | (apply Pck.cons; focus ((repeat (first | exact Rem.here _ | apply Rem.there)); done)) | refine Pck.skip _ ?_))
              · skip
                refine cod_skip ?_
                exact ex_ghost ss1 ⟨.inl ⟨by omega, rfl⟩, hs1l⟩ (by repeat (first | exact Sub.nil _ | refine Sub.cons rfl ?_)) (by repeat (first | exact Pck.nil _ | exact Pck.refl _ | (apply Pck.cons; focus ((repeat (first | exact Rem.here _ | apply Rem.there)); done)) | refine Pck.skip _ ?_))
            · skip
              rintro ss2 ⟨hss2, hs2l⟩
              (try dsimp only at hss2 hs2l ⊢)
              refine ex_then ?_
              refine cod_seq ?_
              refine cod_ghost (G := List Vs × Nat × Nat × Nat × Nat) (fun g => g.1 = vs.set i ⟨(vs.getD i default).fr, (vs.getD i default).room, g.2.2.2.1, g.2.2.2.2⟩ ∧ g.2.1 < 18446744073709551616 ∧ g.2.2.1 ≤ 1102 + 10 * (k - (i + 1)) + 2 ∧ g.2.2.2.1 ≤ lo1 ∧ lo1 ≤ g.2.2.2.2 ∧ g.2.2.2.2 ≤ 8) (fun g => [(0, .pointer (some ⟨hb, 0, none⟩)), (2, .int .i64 30), (6, .pointer (some ⟨b6, 0, none⟩)), (8, .pointer (some ⟨b8, 0, none⟩)), (9, .int .i64 (k : Int)), (10, .slice (some ⟨b25, 0, none⟩) k k), (11, .slice (some ⟨b27, 0, none⟩) k k), (14, .int .i64 (i : Int))]) (fun g => .blk hb (hatO nA nums.length nc (g.2.2.1) (g.2.1)) :: .row 56 4 ((some ⟨gv, 0, none⟩)) (k) (wc) (List.flatMap Vs.cells g.1) :: .blk b8 (.cells [.slice ((some ⟨gv, 0, none⟩)) (k) (wc), .slice (none) (0) (0)].toArray 28 (0, 0)) :: .row 3 1 (some ⟨b25, 0, none⟩) k k (ints (ws.set i wq)) :: .row 3 1 (some ⟨b27, 0, none⟩) k k (ints ss2) :: .blk b6 (.cells [.slice none 0 0, .slice none 0 0].toArray 28 (0, 0)) :: T) ?_ ?_
              · skip
                refine any_begin [.b hb, .r (some ⟨gv, 0, none⟩)] F.follows 18 rfl [false, false, false, false, false, false, false, false, false, false, false, false, false, false, false, false, false, false] rfl ?_
                refine any_take (listed' := [true, false, false, false, false, false, false, false, false, false, false, false, false, false, false, false, false, false].toArray) 0 rfl rfl rfl (by kernel_rfl) (by kernel_rfl) (by kernel_rfl) (by repeat (first | exact List.Sublist.refl _ | exact List.nil_sublist _ | refine List.Sublist.cons_cons _ ?_ | refine List.Sublist.cons _ ?_)) (yld_field_z rfl F.fi28_0 F.ti25) rfl ?_
                refine any_take (listed' := [true, true, false, false, false, false, false, false, false, false, false, false, false, false, false, false, false, false].toArray) 1 rfl rfl rfl (by kernel_rfl) (by kernel_rfl) (by kernel_rfl) (by repeat (first | exact List.Sublist.refl _ | exact List.nil_sublist _ | refine List.Sublist.cons_cons _ ?_ | refine List.Sublist.cons _ ?_)) (yld_load rfl F.one25) rfl ?_
                refine any_take (listed' := [true, true, true, false, false, false, false, false, false, false, false, false, false, false, false, false, false, false].toArray) 2 rfl rfl rfl (by kernel_rfl) (by kernel_rfl) (by kernel_rfl) (by repeat (first | exact List.Sublist.refl _ | exact List.nil_sublist _ | refine List.Sublist.cons_cons _ ?_ | refine List.Sublist.cons _ ?_)) (yld_move rfl) rfl ?_
                refine any_take (listed' := [true, true, true, true, false, false, false, false, false, false, false, false, false, false, false, false, false, false].toArray) 3 rfl rfl rfl (by kernel_rfl) (by kernel_rfl) (by kernel_rfl) (by repeat (first | exact List.Sublist.refl _ | exact List.nil_sublist _ | refine List.Sublist.cons_cons _ ?_ | refine List.Sublist.cons _ ?_)) (yld_move rfl) rfl ?_
                refine any_take (listed' := [true, true, true, true, true, false, false, false, false, false, false, false, false, false, false, false, false, false].toArray) 4 rfl rfl rfl (by kernel_rfl) (by kernel_rfl) (by kernel_rfl) (by repeat (first | exact List.Sublist.refl _ | exact List.nil_sublist _ | refine List.Sublist.cons_cons _ ?_ | refine List.Sublist.cons _ ?_)) (yld_move rfl) rfl ?_
                refine any_take (listed' := [true, true, true, true, true, false, false, false, false, true, false, false, false, false, false, false, false, false].toArray) 9 rfl rfl rfl (by kernel_rfl) (by kernel_rfl) (by kernel_rfl) (by repeat (first | exact List.Sublist.refl _ | exact List.nil_sublist _ | refine List.Sublist.cons_cons _ ?_ | refine List.Sublist.cons _ ?_)) (yld_move rfl) rfl ?_
                refine any_take (listed' := [true, true, true, true, true, false, false, false, false, true, true, false, false, false, false, false, false, false].toArray) 10 rfl rfl rfl (by kernel_rfl) (by kernel_rfl) (by kernel_rfl) (by repeat (first | exact List.Sublist.refl _ | exact List.nil_sublist _ | refine List.Sublist.cons_cons _ ?_ | refine List.Sublist.cons _ ?_)) (yld_move rfl) rfl ?_
                refine any_two (l1 := [true, true, true, true, true, true, false, false, false, true, true, false, false, false, false, false, false, false].toArray) (l2 := [true, true, true, true, true, false, false, false, false, true, true, true, false, false, false, false, false, false].toArray) 5 11 (by kernel_rfl) rfl rfl rfl rfl ?_ ?_
                · skip
                  refine lst_lit (vs := [(0, _), (1, _), (2, _)]) rfl rfl Tryd.underlying22 F.ti3 rfl rfl rfl ?_
                  intro b139
                  refine lst_nil ?_
                  refine any_next (by repeat (first | exact List.Sublist.refl _ | exact List.nil_sublist _ | refine List.Sublist.cons_cons _ ?_ | refine List.Sublist.cons _ ?_)) ?_
                  refine any_two (l1 := [true, true, true, true, true, true, true, false, false, true, true, false, false, false, false, false, false, false].toArray) (l2 := [true, true, true, true, true, true, false, false, false, true, true, true, false, false, false, false, false, false].toArray) 6 11 (by kernel_rfl) rfl rfl rfl rfl ?_ ?_
                  · skip
                    refine lst_call_pul (X := Nat × Nat) (vs := [_, _]) hb (fun y => hatO nA nums.length nc (tk5 + 1) (y.1)) (fun y => y.1 < 18446744073709551616 ∧ y.2 ∈ [0, 1, 2]) (fun y => .int .i64 (y.2 : Int)) rfl rfl F.ent17 (fun a w ha => (One_c (C := ⟨Tryd.prog, B, w0, _, _⟩) rfl hB hN (tk := tk5) (st := s5) (A := some ⟨b139, 0, none⟩) (c := 3) (l := [0, 1, 2]) (by omega) hs5 (by simp) (by simp) (Rds.blk (b := b139) (ct := 3) (fun _ => rfl) (by simp [ncell])) ha).mono (fun e w' h => by obtain ⟨s', x, h1, h2, h3, h4⟩ := h; exact ⟨(s', x), ⟨h1, h2⟩, h3, h4⟩)) ?_
                    rintro ⟨s6, x6⟩ ⟨hs6, hx6⟩
                    (try dsimp only at hs6 hx6 ⊢)
                    refine lst_nil ?_
                    refine any_next (by repeat (first | exact List.Sublist.refl _ | exact List.nil_sublist _ | refine List.Sublist.cons_cons _ ?_ | refine List.Sublist.cons _ ?_)) ?_
                    have h62 : x6 ≤ 2 := by simp at hx6; omega
                    refine any_take (listed' := [true, true, true, true, true, true, true, true, false, true, true, false, false, false, false, false, false, false].toArray) 7 rfl rfl rfl (by kernel_rfl) (by kernel_rfl) (by kernel_rfl) (by repeat (first | exact List.Sublist.refl _ | exact List.nil_sublist _ | refine List.Sublist.cons_cons _ ?_ | refine List.Sublist.cons _ ?_)) (yld_int (v := .int .i64 ((lo1 : Int) - (x6 : Int))) rfl rfl (fun w => bin_sub w (wrap_i64' _ (by have := h62; omega) (by omega)))) rfl ?_
                    refine any_take (listed' := [true, true, true, true, true, true, true, true, true, true, true, false, false, false, false, false, false, false].toArray) 8 rfl rfl rfl (by kernel_rfl) (by kernel_rfl) (by kernel_rfl) (by repeat (first | exact List.Sublist.refl _ | exact List.nil_sublist _ | refine List.Sublist.cons_cons _ ?_ | refine List.Sublist.cons _ ?_)) (yld_max rfl rfl) rfl ?_
                    rw [show (if (0 : Int) < (lo1 : Int) - (x6 : Int) then (lo1 : Int) - (x6 : Int) else 0) = ((lo1 - x6 : Nat) : Int) by split <;> omega]
                    refine any_one (listed' := [true, true, true, true, true, true, true, true, true, true, true, true, false, false, false, false, false, false].toArray) 11 (by kernel_rfl) rfl rfl ?_
                    refine lst_lit (vs := [(0, _), (1, _), (2, _), (3, _)]) rfl rfl Tryd.underlying22 F.ti3 rfl rfl rfl ?_
                    intro b145
                    refine lst_nil ?_
                    refine any_next (by repeat (first | exact List.Sublist.refl _ | exact List.nil_sublist _ | refine List.Sublist.cons_cons _ ?_ | refine List.Sublist.cons _ ?_)) ?_
                    refine any_one (listed' := [true, true, true, true, true, true, true, true, true, true, true, true, true, false, false, false, false, false].toArray) 12 (by kernel_rfl) rfl rfl ?_
                    refine lst_call_pul (X := Nat × Nat) (vs := [_, _]) hb (fun y => hatO nA nums.length nc (tk5 + 1 + 1) (y.1)) (fun y => y.1 < 18446744073709551616 ∧ y.2 ∈ [0, 1, 2, 4]) (fun y => .int .i64 (y.2 : Int)) rfl rfl F.ent17 (fun a w ha => (One_c (C := ⟨Tryd.prog, B, w0, _, _⟩) rfl hB hN (tk := tk5 + 1) (st := s6) (A := some ⟨b145, 0, none⟩) (c := 4) (l := [0, 1, 2, 4]) (by omega) hs6 (by simp) (by simp) (Rds.blk (b := b145) (ct := 3) (fun _ => rfl) (by simp [ncell])) ha).mono (fun e w' h => by obtain ⟨s', x, h1, h2, h3, h4⟩ := h; exact ⟨(s', x), ⟨h1, h2⟩, h3, h4⟩)) ?_
                    rintro ⟨s7, x7⟩ ⟨hs7, hx7⟩
                    (try dsimp only at hs7 hx7 ⊢)
                    refine lst_nil ?_
                    refine any_next (by repeat (first | exact List.Sublist.refl _ | exact List.nil_sublist _ | refine List.Sublist.cons_cons _ ?_ | refine List.Sublist.cons _ ?_)) ?_
                    have h74 : x7 ≤ 4 := by simp at hx7; omega
                    refine any_take (listed' := [true, true, true, true, true, true, true, true, true, true, true, true, true, true, false, false, false, false].toArray) 13 rfl rfl rfl (by kernel_rfl) (by kernel_rfl) (by kernel_rfl) (by repeat (first | exact List.Sublist.refl _ | exact List.nil_sublist _ | refine List.Sublist.cons_cons _ ?_ | refine List.Sublist.cons _ ?_)) (yld_int (v := .int .i64 ((lo1 + x7 : Nat) : Int)) rfl rfl (fun w => bin_add w (by rw [wrap_i64' _ (by omega) (by omega)]; omega))) rfl ?_
                    refine any_take (listed' := [true, true, true, true, true, true, true, true, true, true, true, true, true, true, true, false, false, false].toArray) 14 rfl rfl rfl (by kernel_rfl) (by kernel_rfl) (by kernel_rfl) (by repeat (first | exact List.Sublist.refl _ | exact List.nil_sublist _ | refine List.Sublist.cons_cons _ ?_ | refine List.Sublist.cons _ ?_)) (yld_struct (vs := [(0, _), (1, _)]) (l' := [_, _]) rfl F.ti33 F.pl33 (.cons rfl rfl (.cons rfl rfl (.nil _))) rfl) rfl ?_
                    refine any_take (listed' := [true, true, true, true, true, true, true, true, true, true, true, true, true, true, true, true, false, false].toArray) 15 rfl rfl rfl (by kernel_rfl) (by kernel_rfl) (by kernel_rfl) (by repeat (first | exact List.Sublist.refl _ | exact List.nil_sublist _ | refine List.Sublist.cons_cons _ ?_ | refine List.Sublist.cons _ ?_)) (yld_index (j := i) rfl rfl Tryd.underlying25 F.ti56 rfl hin) rfl ?_
                    refine any_take (listed' := [true, true, true, true, true, true, true, true, true, true, true, true, true, true, true, true, true, false].toArray) 16 rfl rfl rfl (by kernel_rfl) (by kernel_rfl) (by kernel_rfl) (by repeat (first | exact List.Sublist.refl _ | exact List.nil_sublist _ | refine List.Sublist.cons_cons _ ?_ | refine List.Sublist.cons _ ?_)) (yld_field rfl F.fi56_2 F.ti33) rfl ?_
                    refine any_one (listed' := [true, true, true, true, true, true, true, true, true, true, true, true, true, true, true, true, true, true].toArray) 17 (by kernel_rfl) rfl rfl ?_
                    refine lst_store_row rfl rfl F.ti33 rfl (vs_los (vs := vs) (i := i) (a := lo1 - x6) (b := lo1 + x7) hiv) (by repeat (first | exact .head _ | apply Upd.tail)) ?_
                    refine lst_nil ?_
                    refine any_next (by repeat (first | exact List.Sublist.refl _ | exact List.nil_sublist _ | refine List.Sublist.cons_cons _ ?_ | refine List.Sublist.cons _ ?_)) ?_
                    refine any_done rfl (by kernel_rfl) ?_
                    exact ex_ghost ⟨_, s7, tk5 + 1 + 1, lo1 - x6, lo1 + x7⟩ ⟨rfl, hs7, by (try dsimp only); omega, by (try dsimp only); omega, by (try dsimp only); omega, by (try dsimp only); omega⟩ (by repeat (first | exact Sub.nil _ | refine Sub.cons rfl ?_)) (by repeat (first | exact Pck.nil _ | exact Pck.refl _ | (apply Pck.cons; focus ((repeat (first | exact Rem.here _ | apply Rem.there)); done)) | refine Pck.skip _ ?_))
                  · skip
                    refine lst_lit (vs := [(0, _), (1, _), (2, _), (3, _)]) rfl rfl Tryd.underlying22 F.ti3 rfl rfl rfl ?_
                    intro b145
                    refine lst_nil ?_
                    refine any_next (by repeat (first | exact List.Sublist.refl _ | exact List.nil_sublist _ | refine List.Sublist.cons_cons _ ?_ | refine List.Sublist.cons _ ?_)) ?_
                    refine any_one (listed' := [true, true, true, true, true, true, true, false, false, true, true, true, false, false, false, false, false, false].toArray) 6 (by kernel_rfl) rfl rfl ?_
                    refine lst_call_pul (X := Nat × Nat) (vs := [_, _]) hb (fun y => hatO nA nums.length nc (tk5 + 1) (y.1)) (fun y => y.1 < 18446744073709551616 ∧ y.2 ∈ [0, 1, 2]) (fun y => .int .i64 (y.2 : Int)) rfl rfl F.ent17 (fun a w ha => (One_c (C := ⟨Tryd.prog, B, w0, _, _⟩) rfl hB hN (tk := tk5) (st := s5) (A := some ⟨b139, 0, none⟩) (c := 3) (l := [0, 1, 2]) (by omega) hs5 (by simp) (by simp) (Rds.blk (b := b139) (ct := 3) (fun _ => rfl) (by simp [ncell])) ha).mono (fun e w' h => by obtain ⟨s', x, h1, h2, h3, h4⟩ := h; exact ⟨(s', x), ⟨h1, h2⟩, h3, h4⟩)) ?_
                    rintro ⟨s6, x6⟩ ⟨hs6, hx6⟩
                    (try dsimp only at hs6 hx6 ⊢)
                    refine lst_nil ?_
                    refine any_next (by repeat (first | exact List.Sublist.refl _ | exact List.nil_sublist _ | refine List.Sublist.cons_cons _ ?_ | refine List.Sublist.cons _ ?_)) ?_
                    have h62 : x6 ≤ 2 := by simp at hx6; omega
                    refine any_take (listed' := [true, true, true, true, true, true, true, true, false, true, true, true, false, false, false, false, false, false].toArray) 7 rfl rfl rfl (by kernel_rfl) (by kernel_rfl) (by kernel_rfl) (by repeat (first | exact List.Sublist.refl _ | exact List.nil_sublist _ | refine List.Sublist.cons_cons _ ?_ | refine List.Sublist.cons _ ?_)) (yld_int (v := .int .i64 ((lo1 : Int) - (x6 : Int))) rfl rfl (fun w => bin_sub w (wrap_i64' _ (by have := h62; omega) (by omega)))) rfl ?_
                    refine any_take (listed' := [true, true, true, true, true, true, true, true, true, true, true, true, false, false, false, false, false, false].toArray) 8 rfl rfl rfl (by kernel_rfl) (by kernel_rfl) (by kernel_rfl) (by repeat (first | exact List.Sublist.refl _ | exact List.nil_sublist _ | refine List.Sublist.cons_cons _ ?_ | refine List.Sublist.cons _ ?_)) (yld_max rfl rfl) rfl ?_
                    rw [show (if (0 : Int) < (lo1 : Int) - (x6 : Int) then (lo1 : Int) - (x6 : Int) else 0) = ((lo1 - x6 : Nat) : Int) by split <;> omega]
                    refine any_one (listed' := [true, true, true, true, true, true, true, true, true, true, true, true, true, false, false, false, false, false].toArray) 12 (by kernel_rfl) rfl rfl ?_
                    refine lst_call_pul (X := Nat × Nat) (vs := [_, _]) hb (fun y => hatO nA nums.length nc (tk5 + 1 + 1) (y.1)) (fun y => y.1 < 18446744073709551616 ∧ y.2 ∈ [0, 1, 2, 4]) (fun y => .int .i64 (y.2 : Int)) rfl rfl F.ent17 (fun a w ha => (One_c (C := ⟨Tryd.prog, B, w0, _, _⟩) rfl hB hN (tk := tk5 + 1) (st := s6) (A := some ⟨b145, 0, none⟩) (c := 4) (l := [0, 1, 2, 4]) (by omega) hs6 (by simp) (by simp) (Rds.blk (b := b145) (ct := 3) (fun _ => rfl) (by simp [ncell])) ha).mono (fun e w' h => by obtain ⟨s', x, h1, h2, h3, h4⟩ := h; exact ⟨(s', x), ⟨h1, h2⟩, h3, h4⟩)) ?_
                    rintro ⟨s7, x7⟩ ⟨hs7, hx7⟩
                    (try dsimp only at hs7 hx7 ⊢)
                    refine lst_nil ?_
                    refine any_next (by repeat (first | exact List.Sublist.refl _ | exact List.nil_sublist _ | refine List.Sublist.cons_cons _ ?_ | refine List.Sublist.cons _ ?_)) ?_
                    have h74 : x7 ≤ 4 := by simp at hx7; omega
                    refine any_take (listed' := [true, true, true, true, true, true, true, true, true, true, true, true, true, true, false, false, false, false].toArray) 13 rfl rfl rfl (by kernel_rfl) (by kernel_rfl) (by kernel_rfl) (by repeat (first | exact List.Sublist.refl _ | exact List.nil_sublist _ | refine List.Sublist.cons_cons _ ?_ | refine List.Sublist.cons _ ?_)) (yld_int (v := .int .i64 ((lo1 + x7 : Nat) : Int)) rfl rfl (fun w => bin_add w (by rw [wrap_i64' _ (by omega) (by omega)]; omega))) rfl ?_
                    refine any_take (listed' := [true, true, true, true, true, true, true, true, true, true, true, true, true, true, true, false, false, false].toArray) 14 rfl rfl rfl (by kernel_rfl) (by kernel_rfl) (by kernel_rfl) (by repeat (first | exact List.Sublist.refl _ | exact List.nil_sublist _ | refine List.Sublist.cons_cons _ ?_ | refine List.Sublist.cons _ ?_)) (yld_struct (vs := [(0, _), (1, _)]) (l' := [_, _]) rfl F.ti33 F.pl33 (.cons rfl rfl (.cons rfl rfl (.nil _))) rfl) rfl ?_
                    refine any_take (listed' := [true, true, true, true, true, true, true, true, true, true, true, true, true, true, true, true, false, false].toArray) 15 rfl rfl rfl (by kernel_rfl) (by kernel_rfl) (by kernel_rfl) (by repeat (first | exact List.Sublist.refl _ | exact List.nil_sublist _ | refine List.Sublist.cons_cons _ ?_ | refine List.Sublist.cons _ ?_)) (yld_index (j := i) rfl rfl Tryd.underlying25 F.ti56 rfl hin) rfl ?_
                    refine any_take (listed' := [true, true, true, true, true, true, true, true, true, true, true, true, true, true, true, true, true, false].toArray) 16 rfl rfl rfl (by kernel_rfl) (by kernel_rfl) (by kernel_rfl) (by repeat (first | exact List.Sublist.refl _ | exact List.nil_sublist _ | refine List.Sublist.cons_cons _ ?_ | refine List.Sublist.cons _ ?_)) (yld_field rfl F.fi56_2 F.ti33) rfl ?_
                    refine any_one (listed' := [true, true, true, true, true, true, true, true, true, true, true, true, true, true, true, true, true, true].toArray) 17 (by kernel_rfl) rfl rfl ?_
                    refine lst_store_row rfl rfl F.ti33 rfl (vs_los (vs := vs) (i := i) (a := lo1 - x6) (b := lo1 + x7) hiv) (by repeat (first | exact .head _ | apply Upd.tail)) ?_
                    refine lst_nil ?_
                    refine any_next (by repeat (first | exact List.Sublist.refl _ | exact List.nil_sublist _ | refine List.Sublist.cons_cons _ ?_ | refine List.Sublist.cons _ ?_)) ?_
                    refine any_done rfl (by kernel_rfl) ?_
                    exact ex_ghost ⟨_, s7, tk5 + 1 + 1, lo1 - x6, lo1 + x7⟩ ⟨rfl, hs7, by (try dsimp only); omega, by (try dsimp only); omega, by (try dsimp only); omega, by (try dsimp only); omega⟩ (by repeat (first | exact Sub.nil _ | refine Sub.cons rfl ?_)) (by repeat (first | exact Pck.nil _ | exact Pck.refl _ | (apply Pck.cons; focus ((repeat (first | exact Rem.here _ | apply Rem.there)); done)) | refine Pck.skip _ ?_))
                · skip
                  refine lst_lit (vs := [(0, _), (1, _), (2, _), (3, _)]) rfl rfl Tryd.underlying22 F.ti3 rfl rfl rfl ?_
                  intro b145
                  refine lst_nil ?_
                  refine any_next (by repeat (first | exact List.Sublist.refl _ | exact List.nil_sublist _ | refine List.Sublist.cons_cons _ ?_ | refine List.Sublist.cons _ ?_)) ?_
                  refine any_one (listed' := [true, true, true, true, true, true, false, false, false, true, true, true, false, false, false, false, false, false].toArray) 5 (by kernel_rfl) rfl rfl ?_
                  refine lst_lit (vs := [(0, _), (1, _), (2, _)]) rfl rfl Tryd.underlying22 F.ti3 rfl rfl rfl ?_
                  intro b139
                  refine lst_nil ?_
                  refine any_next (by repeat (first | exact List.Sublist.refl _ | exact List.nil_sublist _ | refine List.Sublist.cons_cons _ ?_ | refine List.Sublist.cons _ ?_)) ?_
                  refine any_one (listed' := [true, true, true, true, true, true, true, false, false, true, true, true, false, false, false, false, false, false].toArray) 6 (by kernel_rfl) rfl rfl ?_
                  refine lst_call_pul (X := Nat × Nat) (vs := [_, _]) hb (fun y => hatO nA nums.length nc (tk5 + 1) (y.1)) (fun y => y.1 < 18446744073709551616 ∧ y.2 ∈ [0, 1, 2]) (fun y => .int .i64 (y.2 : Int)) rfl rfl F.ent17 (fun a w ha => (One_c (C := ⟨Tryd.prog, B, w0, _, _⟩) rfl hB hN (tk := tk5) (st := s5) (A := some ⟨b139, 0, none⟩) (c := 3) (l := [0, 1, 2]) (by omega) hs5 (by simp) (by simp) (Rds.blk (b := b139) (ct := 3) (fun _ => rfl) (by simp [ncell])) ha).mono (fun e w' h => by obtain ⟨s', x, h1, h2, h3, h4⟩ := h; exact ⟨(s', x), ⟨h1, h2⟩, h3, h4⟩)) ?_
                  rintro ⟨s6, x6⟩ ⟨hs6, hx6⟩
                  (try dsimp only at hs6 hx6 ⊢)
                  refine lst_nil ?_
                  refine any_next (by repeat (first | exact List.Sublist.refl _ | exact List.nil_sublist _ | refine List.Sublist.cons_cons _ ?_ | refine List.Sublist.cons _ ?_)) ?_
                  have h62 : x6 ≤ 2 := by simp at hx6; omega
                  refine any_take (listed' := [true, true, true, true, true, true, true, true, false, true, true, true, false, false, false, false, false, false].toArray) 7 rfl rfl rfl (by kernel_rfl) (by kernel_rfl) (by kernel_rfl) (by repeat (first | exact List.Sublist.refl _ | exact List.nil_sublist _ | refine List.Sublist.cons_cons _ ?_ | refine List.Sublist.cons _ ?_)) (yld_int (v := .int .i64 ((lo1 : Int) - (x6 : Int))) rfl rfl (fun w => bin_sub w (wrap_i64' _ (by have := h62; omega) (by omega)))) rfl ?_
                  refine any_take (listed' := [true, true, true, true, true, true, true, true, true, true, true, true, false, false, false, false, false, false].toArray) 8 rfl rfl rfl (by kernel_rfl) (by kernel_rfl) (by kernel_rfl) (by repeat (first | exact List.Sublist.refl _ | exact List.nil_sublist _ | refine List.Sublist.cons_cons _ ?_ | refine List.Sublist.cons _ ?_)) (yld_max rfl rfl) rfl ?_
                  rw [show (if (0 : Int) < (lo1 : Int) - (x6 : Int) then (lo1 : Int) - (x6 : Int) else 0) = ((lo1 - x6 : Nat) : Int) by split <;> omega]
                  refine any_one (listed' := [true, true, true, true, true, true, true, true, true, true, true, true, true, false, false, false, false, false].toArray) 12 (by kernel_rfl) rfl rfl ?_
                  refine lst_call_pul (X := Nat × Nat) (vs := [_, _]) hb (fun y => hatO nA nums.length nc (tk5 + 1 + 1) (y.1)) (fun y => y.1 < 18446744073709551616 ∧ y.2 ∈ [0, 1, 2, 4]) (fun y => .int .i64 (y.2 : Int)) rfl rfl F.ent17 (fun a w ha => (One_c (C := ⟨Tryd.prog, B, w0, _, _⟩) rfl hB hN (tk := tk5 + 1) (st := s6) (A := some ⟨b145, 0, none⟩) (c := 4) (l := [0, 1, 2, 4]) (by omega) hs6 (by simp) (by simp) (Rds.blk (b := b145) (ct := 3) (fun _ => rfl) (by simp [ncell])) ha).mono (fun e w' h => by obtain ⟨s', x, h1, h2, h3, h4⟩ := h; exact ⟨(s', x), ⟨h1, h2⟩, h3, h4⟩)) ?_
                  rintro ⟨s7, x7⟩ ⟨hs7, hx7⟩
                  (try dsimp only at hs7 hx7 ⊢)
                  refine lst_nil ?_
                  refine any_next (by repeat (first | exact List.Sublist.refl _ | exact List.nil_sublist _ | refine List.Sublist.cons_cons _ ?_ | refine List.Sublist.cons _ ?_)) ?_
                  have h74 : x7 ≤ 4 := by simp at hx7; omega
                  refine any_take (listed' := [true, true, true, true, true, true, true, true, true, true, true, true, true, true, false, false, false, false].toArray) 13 rfl rfl rfl (by kernel_rfl) (by kernel_rfl) (by kernel_rfl) (by repeat (first | exact List.Sublist.refl _ | exact List.nil_sublist _ | refine List.Sublist.cons_cons _ ?_ | refine List.Sublist.cons _ ?_)) (yld_int (v := .int .i64 ((lo1 + x7 : Nat) : Int)) rfl rfl (fun w => bin_add w (by rw [wrap_i64' _ (by omega) (by omega)]; omega))) rfl ?_
                  refine any_take (listed' := [true, true, true, true, true, true, true, true, true, true, true, true, true, true, true, false, false, false].toArray) 14 rfl rfl rfl (by kernel_rfl) (by kernel_rfl) (by kernel_rfl) (by repeat (first | exact List.Sublist.refl _ | exact List.nil_sublist _ | refine List.Sublist.cons_cons _ ?_ | refine List.Sublist.cons _ ?_)) (yld_struct (vs := [(0, _), (1, _)]) (l' := [_, _]) rfl F.ti33 F.pl33 (.cons rfl rfl (.cons rfl rfl (.nil _))) rfl) rfl ?_
                  refine any_take (listed' := [true, true, true, true, true, true, true, true, true, true, true, true, true, true, true, true, false, false].toArray) 15 rfl rfl rfl (by kernel_rfl) (by kernel_rfl) (by kernel_rfl) (by repeat (first | exact List.Sublist.refl _ | exact List.nil_sublist _ | refine List.Sublist.cons_cons _ ?_ | refine List.Sublist.cons _ ?_)) (yld_index (j := i) rfl rfl Tryd.underlying25 F.ti56 rfl hin) rfl ?_
                  refine any_take (listed' := [true, true, true, true, true, true, true, true, true, true, true, true, true, true, true, true, true, false].toArray) 16 rfl rfl rfl (by kernel_rfl) (by kernel_rfl) (by kernel_rfl) (by repeat (first | exact List.Sublist.refl _ | exact List.nil_sublist _ | refine List.Sublist.cons_cons _ ?_ | refine List.Sublist.cons _ ?_)) (yld_field rfl F.fi56_2 F.ti33) rfl ?_
                  refine any_one (listed' := [true, true, true, true, true, true, true, true, true, true, true, true, true, true, true, true, true, true].toArray) 17 (by kernel_rfl) rfl rfl ?_
                  refine lst_store_row rfl rfl F.ti33 rfl (vs_los (vs := vs) (i := i) (a := lo1 - x6) (b := lo1 + x7) hiv) (by repeat (first | exact .head _ | apply Upd.tail)) ?_
                  refine lst_nil ?_
                  refine any_next (by repeat (first | exact List.Sublist.refl _ | exact List.nil_sublist _ | refine List.Sublist.cons_cons _ ?_ | refine List.Sublist.cons _ ?_)) ?_
                  refine any_done rfl (by kernel_rfl) ?_
                  exact ex_ghost ⟨_, s7, tk5 + 1 + 1, lo1 - x6, lo1 + x7⟩ ⟨rfl, hs7, by (try dsimp only); omega, by (try dsimp only); omega, by (try dsimp only); omega, by (try dsimp only); omega⟩ (by repeat (first | exact Sub.nil _ | refine Sub.cons rfl ?_)) (by repeat (first | exact Pck.nil _ | exact Pck.refl _ | (apply Pck.cons; focus ((repeat (first | exact Rem.here _ | apply Rem.there)); done)) | refine Pck.skip _ ?_))
              · skip
                rintro ⟨vs1, s8, tk8, la, lb⟩ ⟨hvs1, hs8, htk8, hla, hlb, hlb8⟩
                (try dsimp only at hvs1 hs8 htk8 hla hlb hlb8 ⊢)
                have hv1l : vs1.length = k := by rw [hvs1, List.length_set]; exact hvl
                have hv1g : vs1.getD i default = ⟨(vs.getD i default).fr, (vs.getD i default).room, la, lb⟩ := by rw [hvs1, getV_set hiv, if_pos rfl]
                refine ex_then ?_
                refine any_begin [.b hb, .r (some ⟨gv, 0, none⟩)] F.follows 16 rfl [false, false, false, false, false, false, false, false, false, false, false, false, false, false, false, false] rfl ?_
                refine any_take (listed' := [true, false, false, false, false, false, false, false, false, false, false, false, false, false, false, false].toArray) 0 rfl rfl rfl (by kernel_rfl) (by kernel_rfl) (by kernel_rfl) (by repeat (first | exact List.Sublist.refl _ | exact List.nil_sublist _ | refine List.Sublist.cons_cons _ ?_ | refine List.Sublist.cons _ ?_)) (yld_field_z rfl F.fi28_0 F.ti25) rfl ?_
                refine any_take (listed' := [true, true, false, false, false, false, false, false, false, false, false, false, false, false, false, false].toArray) 1 rfl rfl rfl (by kernel_rfl) (by kernel_rfl) (by kernel_rfl) (by repeat (first | exact List.Sublist.refl _ | exact List.nil_sublist _ | refine List.Sublist.cons_cons _ ?_ | refine List.Sublist.cons _ ?_)) (yld_load rfl F.one25) rfl ?_
                refine any_take (listed' := [true, true, true, false, false, false, false, false, false, false, false, false, false, false, false, false].toArray) 2 rfl rfl rfl (by kernel_rfl) (by kernel_rfl) (by kernel_rfl) (by repeat (first | exact List.Sublist.refl _ | exact List.nil_sublist _ | refine List.Sublist.cons_cons _ ?_ | refine List.Sublist.cons _ ?_)) (yld_move rfl) rfl ?_
                refine any_take (listed' := [true, true, true, true, false, false, false, false, false, false, false, false, false, false, false, false].toArray) 3 rfl rfl rfl (by kernel_rfl) (by kernel_rfl) (by kernel_rfl) (by repeat (first | exact List.Sublist.refl _ | exact List.nil_sublist _ | refine List.Sublist.cons_cons _ ?_ | refine List.Sublist.cons _ ?_)) (yld_move rfl) rfl ?_
                refine any_take (listed' := [true, true, true, true, true, false, false, false, false, false, false, false, false, false, false, false].toArray) 4 rfl rfl rfl (by kernel_rfl) (by kernel_rfl) (by kernel_rfl) (by repeat (first | exact List.Sublist.refl _ | exact List.nil_sublist _ | refine List.Sublist.cons_cons _ ?_ | refine List.Sublist.cons _ ?_)) (yld_move rfl) rfl ?_
                refine any_take (listed' := [true, true, true, true, true, true, false, false, false, false, false, false, false, false, false, false].toArray) 5 rfl rfl rfl (by kernel_rfl) (by kernel_rfl) (by kernel_rfl) (by repeat (first | exact List.Sublist.refl _ | exact List.nil_sublist _ | refine List.Sublist.cons_cons _ ?_ | refine List.Sublist.cons _ ?_)) (yld_index (j := i) rfl rfl Tryd.underlying22 F.ti3 rfl hin) rfl ?_
                refine any_take (listed' := [true, true, true, true, true, true, true, false, false, false, false, false, false, false, false, false].toArray) 6 rfl rfl rfl (by kernel_rfl) (by kernel_rfl) (by kernel_rfl) (by repeat (first | exact List.Sublist.refl _ | exact List.nil_sublist _ | refine List.Sublist.cons_cons _ ?_ | refine List.Sublist.cons _ ?_)) (yld_load_at (v := .int .i64 ((wq : Int))) rfl F.one3 (fun a w ha => row_cell ha (InR.mem (A := some ⟨b25, 0, none⟩)) rfl (hgw))) rfl ?_
                refine any_take (listed' := [true, true, true, true, true, true, true, true, false, false, false, false, false, false, false, false].toArray) 7 rfl rfl rfl (by kernel_rfl) (by kernel_rfl) (by kernel_rfl) (by repeat (first | exact List.Sublist.refl _ | exact List.nil_sublist _ | refine List.Sublist.cons_cons _ ?_ | refine List.Sublist.cons _ ?_)) (yld_move rfl) rfl ?_
                refine any_take (listed' := [true, true, true, true, true, true, true, true, true, false, false, false, false, false, false, false].toArray) 8 rfl rfl rfl (by kernel_rfl) (by kernel_rfl) (by kernel_rfl) (by repeat (first | exact List.Sublist.refl _ | exact List.nil_sublist _ | refine List.Sublist.cons_cons _ ?_ | refine List.Sublist.cons _ ?_)) (yld_move rfl) rfl ?_
                refine any_one (listed' := [true, true, true, true, true, true, true, true, true, true, false, false, false, false, false, false].toArray) 9 (by kernel_rfl) rfl rfl ?_
                refine lst_lit (vs := [(0, _), (1, _), (2, _), (3, _)]) rfl rfl Tryd.underlying22 F.ti3 rfl rfl rfl ?_
                intro b160
                refine lst_nil ?_
                refine any_next (by repeat (first | exact List.Sublist.refl _ | exact List.nil_sublist _ | refine List.Sublist.cons_cons _ ?_ | refine List.Sublist.cons _ ?_)) ?_
                refine any_one (listed' := [true, true, true, true, true, true, true, true, true, true, true, false, false, false, false, false].toArray) 10 (by kernel_rfl) rfl rfl ?_
                refine lst_call_pul (X := Nat × Nat) (vs := [_, _]) hb (fun y => hatO nA nums.length nc (tk8 + 1) (y.1)) (fun y => y.1 < 18446744073709551616 ∧ y.2 ∈ [0, 1, 3, 30]) (fun y => .int .i64 (y.2 : Int)) rfl rfl F.ent17 (fun a w ha => (One_c (C := ⟨Tryd.prog, B, w0, _, _⟩) rfl hB hN (tk := tk8) (st := s8) (A := some ⟨b160, 0, none⟩) (c := 4) (l := [0, 1, 3, 30]) (by omega) hs8 (by simp) (by simp) (Rds.blk (b := b160) (ct := 3) (fun _ => rfl) (by simp [ncell])) ha).mono (fun e w' h => by obtain ⟨s', x, h1, h2, h3, h4⟩ := h; exact ⟨(s', x), ⟨h1, h2⟩, h3, h4⟩)) ?_
                rintro ⟨s9, x9⟩ ⟨hs9, hx9⟩
                (try dsimp only at hs9 hx9 ⊢)
                have hx930 : x9 ≤ 30 := by simp at hx9; omega
                refine lst_nil ?_
                refine any_next (by repeat (first | exact List.Sublist.refl _ | exact List.nil_sublist _ | refine List.Sublist.cons_cons _ ?_ | refine List.Sublist.cons _ ?_)) ?_
                refine any_take (listed' := [true, true, true, true, true, true, true, true, true, true, true, true, false, false, false, false].toArray) 11 rfl rfl rfl (by kernel_rfl) (by kernel_rfl) (by kernel_rfl) (by repeat (first | exact List.Sublist.refl _ | exact List.nil_sublist _ | refine List.Sublist.cons_cons _ ?_ | refine List.Sublist.cons _ ?_)) (yld_int (v := .int .i64 ((wq : Int) + (x9 : Int))) rfl rfl (fun w => bin_add w (wrap_i64' _ (by omega) (by omega)))) rfl ?_
                refine any_take (listed' := [true, true, true, true, true, true, true, true, true, true, true, true, true, false, false, false].toArray) 12 rfl rfl rfl (by kernel_rfl) (by kernel_rfl) (by kernel_rfl) (by repeat (first | exact List.Sublist.refl _ | exact List.nil_sublist _ | refine List.Sublist.cons_cons _ ?_ | refine List.Sublist.cons _ ?_)) (yld_min rfl rfl) rfl ?_
                rw [show (if (wq : Int) + (x9 : Int) < 40 then (wq : Int) + (x9 : Int) else 40) = ((min 40 (wq + x9) : Nat) : Int) by split <;> omega]
                refine any_take (listed' := [true, true, true, true, true, true, true, true, true, true, true, true, true, true, false, false].toArray) 13 rfl rfl rfl (by kernel_rfl) (by kernel_rfl) (by kernel_rfl) (by repeat (first | exact List.Sublist.refl _ | exact List.nil_sublist _ | refine List.Sublist.cons_cons _ ?_ | refine List.Sublist.cons _ ?_)) (yld_index (j := i) rfl rfl Tryd.underlying25 F.ti56 rfl hin) rfl ?_
                refine any_take (listed' := [true, true, true, true, true, true, true, true, true, true, true, true, true, true, true, false].toArray) 14 rfl rfl rfl (by kernel_rfl) (by kernel_rfl) (by kernel_rfl) (by repeat (first | exact List.Sublist.refl _ | exact List.nil_sublist _ | refine List.Sublist.cons_cons _ ?_ | refine List.Sublist.cons _ ?_)) (yld_field rfl F.fi56_1 F.ti3) rfl ?_
                refine any_one (listed' := [true, true, true, true, true, true, true, true, true, true, true, true, true, true, true, true].toArray) 15 (by kernel_rfl) rfl rfl ?_
                refine lst_store_row rfl rfl F.ti3 rfl (vs_room (vs := vs1) (i := i) (r := min 40 (wq + x9)) (by omega)) (by repeat (first | exact .head _ | apply Upd.tail)) ?_
                refine lst_nil ?_
                refine any_next (by repeat (first | exact List.Sublist.refl _ | exact List.nil_sublist _ | refine List.Sublist.cons_cons _ ?_ | refine List.Sublist.cons _ ?_)) ?_
                refine any_done rfl (by kernel_rfl) ?_
                refine ex_block_normal ?_
                refine ex_then ?_
                refine cod_region ?_
                refine lst_move rfl rfl ?_
                refine lst_int (v := .int .i64 ((i : Int) - 1)) rfl rfl rfl (fun w => bin_sub w (wrap_i64' _ (by omega) (by omega))) ?_
                refine lst_assign rfl rfl ?_
                refine lst_nil ?_
                have hvs2 : vs1.set i ⟨(vs1.getD i default).fr, min 40 (wq + x9), (vs1.getD i default).lo, (vs1.getD i default).hi⟩ = vs.set i ⟨(vs.getD i default).fr, min 40 (wq + x9), la, lb⟩ := by rw [hv1g, hvs1, List.set_set]
                rw [hvs2]
                refine ex_round' ⟨i, vs.set i ⟨(vs.getD i default).fr, min 40 (wq + x9), la, lb⟩, ws.set i wq, ss2, s9, tk8 + 1⟩ ⟨hD.step (v' := ⟨(vs.getD i default).fr, min 40 (wq + x9), la, lb⟩) (lost := lo1) rfl hss hlo1 (by omega) ⟨Nat.min_le_left _ _, by (try dsimp only); omega⟩ ⟨hla, hlb, by (try dsimp only); omega⟩ hss2, by rw [List.length_set]; exact hvl, hs9, by (try dsimp only); omega⟩ (by (try dsimp only); omega) (by repeat (first | exact Sub.nil _ | refine Sub.cons rfl ?_)) (by repeat (first | exact Pck.nil _ | exact Pck.refl _ | (apply Pck.cons; focus ((repeat (first | exact Rem.here _ | apply Rem.there)); done)) | refine Pck.skip _ ?_))
    · skip
      obtain rfl : m = 0 := by omega
      refine cod_exit ?_
      refine ex_then_exit ?_
      refine ex_then_exit ?_
      refine ex_block_exit ?_
      refine ex_then ?_
      refine cod_seq ?_
      refine cod_seq ?_
      refine cod_region ?_
      refine lst_move rfl rfl ?_
      refine lst_call_pul (X := Nat × Nat) (vs := [_, _]) hb (fun y => hatO nA nums.length nc (tk1 + 1) (y.1)) (fun y => y.1 < 18446744073709551616 ∧ y.2 ≤ ((4 : Int) : Int).toNat) (fun y => .int .i64 (y.2 : Int)) rfl rfl F.ent6 (fun a w ha => (To_c (C := ⟨Tryd.prog, B, w0, _, _⟩) rfl hB hN (tk := tk1) (st := st1) (n := (4 : Int)) (by omega) hst1 (by omega) ha).mono (fun e w' h => by obtain ⟨s', x, h1, h2, h3, h4⟩ := h; exact ⟨(s', x), ⟨h1, h2⟩, h3, h4⟩)) ?_
      rintro ⟨s10, j0⟩ ⟨hs10, hj0⟩
      (try dsimp only at hs10 hj0 ⊢)
      have hwl : ws.length = n := hD.wl.trans hvl
      refine lst_assign rfl rfl ?_
      refine lst_nil ?_
      refine ex_then ?_
      refine cod_block ?_
      refine cod_row0 59 4 ?_
      refine cod_loop' (G := Nat × List Rd × Nat × Nat × Option Addr × Nat) (fun g => g.1 + g.2.1.length ≤ 4 ∧ (∀ r ∈ g.2.1, r.v < n ∧ r.sc ≤ 2 ∧ r.er ≤ 9 ∧ r.sh ≤ 60 ∧ (r.sh : Int) - r.er ≤ (ws.getD r.v 0 : Int) ∧ ((ws.getD r.v 0 : Nat) : Int) ≤ (r.sh : Int) + r.er) ∧ g.2.2.1 < 18446744073709551616 ∧ g.2.2.2.1 ≤ 1200 + 10 * (4 - g.1)) (fun g => g.1) (fun g => [(0, .pointer (some ⟨hb, 0, none⟩)), (6, .pointer (some ⟨b6, 0, none⟩)), (8, .pointer (some ⟨b8, 0, none⟩)), (9, .int .i64 (n : Int)), (10, .slice (some ⟨b25, 0, none⟩) n n), (19, .int .i64 (g.1 : Int))]) (fun g => .blk hb (hatO nA nums.length nc (g.2.2.2.1) (g.2.2.1)) :: .row 56 4 ((some ⟨gv, 0, none⟩)) (n) (wc) (List.flatMap Vs.cells vs) :: .row 3 1 (some ⟨b25, 0, none⟩) n n (ints ws) :: .blk b8 (.cells [.slice ((some ⟨gv, 0, none⟩)) (n) (wc), .slice (g.2.2.2.2.1) (g.2.1.length) (g.2.2.2.2.2)].toArray 28 (0, 0)) :: .row 59 4 (g.2.2.2.2.1) g.2.1.length (g.2.2.2.2.2) (List.flatMap Rd.cells g.2.1) :: .blk b6 (.cells [.slice none 0 0, .slice none 0 0].toArray 28 (0, 0)) :: T) (⟨j0, [], s10, tk1 + 1, none, 0⟩) ⟨by (try dsimp only [List.length_nil]); omega, (fun r hr => by cases hr), hs10, by (try dsimp only); omega⟩ (by repeat (first | exact Sub.nil _ | refine Sub.cons rfl ?_)) (by repeat (first | exact Pck.nil _ | exact Pck.refl _ | (apply Pck.cons; focus ((repeat (first | exact Rem.here _ | apply Rem.there)); done)) | refine Pck.skip _ ?_)) ?_
      rintro ⟨j, rs, st2, tk2, rA, rc⟩ ⟨hj, hrs, hst2, htk2⟩
      (try dsimp only at hj hrs hst2 htk2 ⊢)
      refine cod_seq ?_
      refine cod_seq ?_
      refine cod_region ?_
      refine lst_move rfl rfl ?_
      refine lst_int rfl rfl rfl bin_gtr ?_
      refine lst_nil ?_
      refine ex_then ?_
      refine cod_cond_dec rfl (fun hc7 => ?_) (fun hc7 => ?_)
      · skip
        obtain ⟨j, rfl⟩ : ∃ i, j = i + 1 := ⟨j - 1, by omega⟩
        refine cod_skip ?_
        refine ex_then ?_
        refine cod_seq ?_
        refine cod_block ?_
        refine cod_seq ?_
        refine cod_region ?_
        refine lst_move rfl rfl ?_
        refine lst_move rfl rfl ?_
        refine lst_int (v := .int .i64 ((n : Int) - 1)) rfl rfl rfl (fun w => bin_sub w (wrap_i64' _ (by omega) (by omega))) ?_
        refine lst_call_pul (X := Nat × Nat) (vs := [_, _]) hb (fun y => hatO nA nums.length nc (tk2 + 1) (y.1)) (fun y => y.1 < 18446744073709551616 ∧ y.2 ≤ ((n : Int) - 1 : Int).toNat) (fun y => .int .i64 (y.2 : Int)) rfl rfl F.ent6 (fun a w ha => (To_c (C := ⟨Tryd.prog, B, w0, _, _⟩) rfl hB hN (tk := tk2) (st := st2) (n := (n : Int) - 1) (by omega) hst2 (by omega) ha).mono (fun e w' h => by obtain ⟨s', x, h1, h2, h3, h4⟩ := h; exact ⟨(s', x), ⟨h1, h2⟩, h3, h4⟩)) ?_
        rintro ⟨s11, v1⟩ ⟨hs11, hv1⟩
        (try dsimp only at hs11 hv1 ⊢)
        have hv1n : v1 < n := by omega
        refine lst_move rfl rfl ?_
        refine lst_call_pul (X := Nat × Nat) (vs := [_, _]) hb (fun y => hatO nA nums.length nc (tk2 + 1 + 1) (y.1)) (fun y => y.1 < 18446744073709551616 ∧ y.2 ≤ ((2 : Int) : Int).toNat) (fun y => .int .i64 (y.2 : Int)) rfl rfl F.ent6 (fun a w ha => (To_c (C := ⟨Tryd.prog, B, w0, _, _⟩) rfl hB hN (tk := tk2 + 1) (st := s11) (n := (2 : Int)) (by omega) hs11 (by omega) ha).mono (fun e w' h => by obtain ⟨s', x, h1, h2, h3, h4⟩ := h; exact ⟨(s', x), ⟨h1, h2⟩, h3, h4⟩)) ?_
        rintro ⟨s12, sc1⟩ ⟨hs12, hsc1⟩
        (try dsimp only at hs12 hsc1 ⊢)
        have hsc1' : sc1 ≤ 2 := by omega
        refine lst_move rfl rfl ?_
        refine lst_lit (vs := [(0, _), (1, _), (2, _), (3, _)]) rfl rfl Tryd.underlying22 F.ti3 rfl rfl rfl ?_
        intro b179
        refine lst_call_pul (X := Nat × Nat) (vs := [_, _]) hb (fun y => hatO nA nums.length nc (tk2 + 1 + 1 + 1) (y.1)) (fun y => y.1 < 18446744073709551616 ∧ y.2 ∈ [0, 1, 1, 2]) (fun y => .int .i64 (y.2 : Int)) rfl rfl F.ent17 (fun a w ha => (One_c (C := ⟨Tryd.prog, B, w0, _, _⟩) rfl hB hN (tk := tk2 + 1 + 1) (st := s12) (A := some ⟨b179, 0, none⟩) (c := 4) (l := [0, 1, 1, 2]) (by omega) hs12 (by simp) (by simp) (Rds.blk (b := b179) (ct := 3) (fun _ => rfl) (by simp [ncell])) ha).mono (fun e w' h => by obtain ⟨s', x, h1, h2, h3, h4⟩ := h; exact ⟨(s', x), ⟨h1, h2⟩, h3, h4⟩)) ?_
        rintro ⟨s13, er⟩ ⟨hs13, her⟩
        (try dsimp only at hs13 her ⊢)
        have her2 : er ≤ 2 := by simp at her; omega
        have hwv : ws.getD v1 0 ≤ 40 := by
          have h1 := hD.room v1 (Nat.zero_le _) (by omega)
          omega
        refine lst_struct (vs := [(0, _), (1, _), (3, _)]) (l' := [_, _, _, _]) rfl rfl F.ti59 F.pl59 (.cons rfl rfl (.cons rfl rfl (.cons rfl rfl (.nil _)))) rfl ?_
        refine lst_alloc rfl F.ti59 ?_
        intro b20
        refine lst_store rfl rfl F.ti59 rfl ?_
        refine lst_nil ?_
        refine ex_then ?_
        refine cod_seq ?_
        refine cod_ghost (G := Nat × Nat) (fun g => g.1 < 18446744073709551616 ∧ g.2 ≤ 60 ∧ (g.2 : Int) - er ≤ (ws.getD v1 0 : Int) ∧ ((ws.getD v1 0 : Nat) : Int) ≤ (g.2 : Int) + er) (fun g => [(20, .pointer (some ⟨b20, 0, none⟩)), (0, .pointer (some ⟨hb, 0, none⟩)), (6, .pointer (some ⟨b6, 0, none⟩)), (8, .pointer (some ⟨b8, 0, none⟩)), (9, .int .i64 (n : Int)), (10, .slice (some ⟨b25, 0, none⟩) n n), (19, .int .i64 (((j + 1 : Nat) : Int)))]) (fun g => .blk hb (hatO nA nums.length nc (tk2 + 1 + 1 + 1 + 1) (g.1)) :: .blk b20 (.cells [.int .i64 (v1 : Int), .int .i64 (sc1 : Int), .int .i64 (g.2 : Int), .int .i64 (er : Int)].toArray 59 (0, 0)) :: .row 56 4 ((some ⟨gv, 0, none⟩)) (n) (wc) (List.flatMap Vs.cells vs) :: .row 3 1 (some ⟨b25, 0, none⟩) n n (ints ws) :: .blk b8 (.cells [.slice ((some ⟨gv, 0, none⟩)) (n) (wc), .slice (rA) (rs.length) (rc)].toArray 28 (0, 0)) :: .row 59 4 (rA) rs.length (rc) (List.flatMap Rd.cells rs) :: .blk b6 (.cells [.slice none 0 0, .slice none 0 0].toArray 28 (0, 0)) :: T) ?_ ?_
        · skip
          refine any_begin [.b b20, .b hb] F.follows 16 rfl [false, false, false, false, false, false, false, false, false, false, false, false, false, false, false, false] rfl ?_
          refine any_take (listed' := [true, false, false, false, false, false, false, false, false, false, false, false, false, false, false, false].toArray) 0 rfl rfl rfl (by kernel_rfl) (by kernel_rfl) (by kernel_rfl) (by repeat (first | exact List.Sublist.refl _ | exact List.nil_sublist _ | refine List.Sublist.cons_cons _ ?_ | refine List.Sublist.cons _ ?_)) (yld_move rfl) rfl ?_
          refine any_take (listed' := [true, true, false, false, false, false, false, false, false, false, false, false, false, false, false, false].toArray) 1 rfl rfl rfl (by kernel_rfl) (by kernel_rfl) (by kernel_rfl) (by repeat (first | exact List.Sublist.refl _ | exact List.nil_sublist _ | refine List.Sublist.cons_cons _ ?_ | refine List.Sublist.cons _ ?_)) (yld_field_z rfl F.fi59_0 F.ti3) rfl ?_
          refine any_take (listed' := [true, true, false, false, false, true, false, false, false, false, false, false, false, false, false, false].toArray) 5 rfl rfl rfl (by kernel_rfl) (by kernel_rfl) (by kernel_rfl) (by repeat (first | exact List.Sublist.refl _ | exact List.nil_sublist _ | refine List.Sublist.cons_cons _ ?_ | refine List.Sublist.cons _ ?_)) (yld_move rfl) rfl ?_
          refine any_take (listed' := [true, true, false, false, false, true, true, false, false, false, false, false, false, false, false, false].toArray) 6 rfl rfl rfl (by kernel_rfl) (by kernel_rfl) (by kernel_rfl) (by repeat (first | exact List.Sublist.refl _ | exact List.nil_sublist _ | refine List.Sublist.cons_cons _ ?_ | refine List.Sublist.cons _ ?_)) (yld_field_z rfl F.fi59_3 F.ti3) rfl ?_
          refine any_take (listed' := [true, true, false, false, false, true, true, false, false, true, false, false, false, false, false, false].toArray) 9 rfl rfl rfl (by kernel_rfl) (by kernel_rfl) (by kernel_rfl) (by repeat (first | exact List.Sublist.refl _ | exact List.nil_sublist _ | refine List.Sublist.cons_cons _ ?_ | refine List.Sublist.cons _ ?_)) (yld_field_z rfl F.fi59_3 F.ti3) rfl ?_
          refine any_three (l1 := [true, true, true, false, false, true, true, false, false, true, false, false, false, false, false, false].toArray) (l2 := [true, true, false, false, false, true, true, true, false, true, false, false, false, false, false, false].toArray) (l3 := [true, true, false, false, false, true, true, false, false, true, true, false, false, false, false, false].toArray) 2 7 10 (by kernel_rfl) rfl rfl rfl rfl rfl rfl ?_ ?_ ?_
          · skip
            refine lst_load rfl rfl F.one3 ?_
            refine lst_nil ?_
            refine any_next (by repeat (first | exact List.Sublist.refl _ | exact List.nil_sublist _ | refine List.Sublist.cons_cons _ ?_ | refine List.Sublist.cons _ ?_)) ?_
            refine any_take (listed' := [true, true, true, true, false, true, true, false, false, true, false, false, false, false, false, false].toArray) 3 rfl rfl rfl (by kernel_rfl) (by kernel_rfl) (by kernel_rfl) (by repeat (first | exact List.Sublist.refl _ | exact List.nil_sublist _ | refine List.Sublist.cons_cons _ ?_ | refine List.Sublist.cons _ ?_)) (yld_index (j := v1) rfl rfl Tryd.underlying22 F.ti3 rfl hv1n) rfl ?_
            refine any_take (listed' := [true, true, true, true, true, true, true, false, false, true, false, false, false, false, false, false].toArray) 4 rfl rfl rfl (by kernel_rfl) (by kernel_rfl) (by kernel_rfl) (by repeat (first | exact List.Sublist.refl _ | exact List.nil_sublist _ | refine List.Sublist.cons_cons _ ?_ | refine List.Sublist.cons _ ?_)) (yld_load_at (v := .int .i64 (((ws.getD v1 0 : Nat) : Int))) rfl F.one3 (fun a w ha => row_cell ha (InR.mem (A := some ⟨b25, 0, none⟩)) rfl (ints_get' (by omega)))) rfl ?_
            refine any_two (l1 := [true, true, true, true, true, true, true, true, false, true, false, false, false, false, false, false].toArray) (l2 := [true, true, true, true, true, true, true, false, false, true, true, false, false, false, false, false].toArray) 7 10 (by kernel_rfl) rfl rfl rfl rfl ?_ ?_
            · skip
              refine lst_load rfl rfl F.one3 ?_
              refine lst_nil ?_
              refine any_next (by repeat (first | exact List.Sublist.refl _ | exact List.nil_sublist _ | refine List.Sublist.cons_cons _ ?_ | refine List.Sublist.cons _ ?_)) ?_
              refine any_take (listed' := [true, true, true, true, true, true, true, true, true, true, false, false, false, false, false, false].toArray) 8 rfl rfl rfl (by kernel_rfl) (by kernel_rfl) (by kernel_rfl) (by repeat (first | exact List.Sublist.refl _ | exact List.nil_sublist _ | refine List.Sublist.cons_cons _ ?_ | refine List.Sublist.cons _ ?_)) (yld_neg (r := -(er : Int)) rfl (wrap_i64' _ (by omega) (by omega))) rfl ?_
              refine any_one (listed' := [true, true, true, true, true, true, true, true, true, true, true, false, false, false, false, false].toArray) 10 (by kernel_rfl) rfl rfl ?_
              refine lst_load rfl rfl F.one3 ?_
              refine lst_nil ?_
              refine any_next (by repeat (first | exact List.Sublist.refl _ | exact List.nil_sublist _ | refine List.Sublist.cons_cons _ ?_ | refine List.Sublist.cons _ ?_)) ?_
              refine any_one (listed' := [true, true, true, true, true, true, true, true, true, true, true, true, false, false, false, false].toArray) 11 (by kernel_rfl) rfl rfl ?_
              refine lst_call_pul (X := Nat × Int) (vs := [_, _, _]) hb (fun y => hatO nA nums.length nc (tk2 + 1 + 1 + 1 + 1) (y.1)) (fun y => y.1 < 18446744073709551616 ∧ (-(er : Int)) ≤ y.2 ∧ y.2 ≤ (er : Int)) (fun y => .int .i64 y.2) rfl rfl F.ent15 (fun a w ha => (From_c (C := ⟨Tryd.prog, B, w0, _, _⟩) rfl hB hN (tk := tk2 + 1 + 1 + 1) (st := s13) (lo := (-(er : Int))) (hi := (er : Int)) (by omega) hs13 (by omega) (by omega) (by omega) ha).mono (fun e w' h => by obtain ⟨s', x, h1, h2, h3, h4, h5⟩ := h; exact ⟨(s', x), ⟨h1, h2, h3⟩, h4, h5⟩)) ?_
              rintro ⟨s14, df⟩ ⟨hs14, hdfa, hdfb⟩
              (try dsimp only at hs14 hdfa hdfb ⊢)
              refine lst_nil ?_
              refine any_next (by repeat (first | exact List.Sublist.refl _ | exact List.nil_sublist _ | refine List.Sublist.cons_cons _ ?_ | refine List.Sublist.cons _ ?_)) ?_
              refine any_take (listed' := [true, true, true, true, true, true, true, true, true, true, true, true, true, false, false, false].toArray) 12 rfl rfl rfl (by kernel_rfl) (by kernel_rfl) (by kernel_rfl) (by repeat (first | exact List.Sublist.refl _ | exact List.nil_sublist _ | refine List.Sublist.cons_cons _ ?_ | refine List.Sublist.cons _ ?_)) (yld_int (v := .int .i64 (((ws.getD v1 0 : Nat) : Int) + df)) rfl rfl (fun w => bin_add w (wrap_i64' _ (by omega) (by omega)))) rfl ?_
              refine any_take (listed' := [true, true, true, true, true, true, true, true, true, true, true, true, true, true, false, false].toArray) 13 rfl rfl rfl (by kernel_rfl) (by kernel_rfl) (by kernel_rfl) (by repeat (first | exact List.Sublist.refl _ | exact List.nil_sublist _ | refine List.Sublist.cons_cons _ ?_ | refine List.Sublist.cons _ ?_)) (yld_max rfl rfl) rfl ?_
              obtain ⟨sh, hsh⟩ : ∃ sh : Nat, (if (0 : Int) < ((ws.getD v1 0 : Nat) : Int) + df then ((ws.getD v1 0 : Nat) : Int) + df else 0) = (sh : Int) := ⟨(if (0 : Int) < ((ws.getD v1 0 : Nat) : Int) + df then ((ws.getD v1 0 : Nat) : Int) + df else 0).toNat, by split <;> omega⟩
              rw [hsh]
              have hsh2 : sh ≤ 60 ∧ (sh : Int) - er ≤ (ws.getD v1 0 : Int) ∧ ((ws.getD v1 0 : Nat) : Int) ≤ (sh : Int) + er := by split at hsh <;> omega
              refine any_take (listed' := [true, true, true, true, true, true, true, true, true, true, true, true, true, true, true, false].toArray) 14 rfl rfl rfl (by kernel_rfl) (by kernel_rfl) (by kernel_rfl) (by repeat (first | exact List.Sublist.refl _ | exact List.nil_sublist _ | refine List.Sublist.cons_cons _ ?_ | refine List.Sublist.cons _ ?_)) (yld_field_z rfl F.fi59_2 F.ti3) rfl ?_
              refine any_one (listed' := [true, true, true, true, true, true, true, true, true, true, true, true, true, true, true, true].toArray) 15 (by kernel_rfl) rfl rfl ?_
              refine lst_store rfl rfl F.ti3 rfl ?_
              refine lst_nil ?_
              refine any_next (by repeat (first | exact List.Sublist.refl _ | exact List.nil_sublist _ | refine List.Sublist.cons_cons _ ?_ | refine List.Sublist.cons _ ?_)) ?_
              refine any_done rfl (by kernel_rfl) ?_
              exact ex_ghost ⟨s14, sh⟩ ⟨hs14, hsh2⟩ (by repeat (first | exact Sub.nil _ | refine Sub.cons rfl ?_)) (by repeat (first | exact Pck.nil _ | exact Pck.refl _ | (apply Pck.cons; focus ((repeat (first | exact Rem.here _ | apply Rem.there)); done)) | refine Pck.skip _ ?_))
            · skip
              refine lst_load rfl rfl F.one3 ?_
              refine lst_nil ?_
              refine any_next (by repeat (first | exact List.Sublist.refl _ | exact List.nil_sublist _ | refine List.Sublist.cons_cons _ ?_ | refine List.Sublist.cons _ ?_)) ?_
              refine any_one (listed' := [true, true, true, true, true, true, true, true, false, true, true, false, false, false, false, false].toArray) 7 (by kernel_rfl) rfl rfl ?_
              refine lst_load rfl rfl F.one3 ?_
              refine lst_nil ?_
              refine any_next (by repeat (first | exact List.Sublist.refl _ | exact List.nil_sublist _ | refine List.Sublist.cons_cons _ ?_ | refine List.Sublist.cons _ ?_)) ?_
              refine any_take (listed' := [true, true, true, true, true, true, true, true, true, true, true, false, false, false, false, false].toArray) 8 rfl rfl rfl (by kernel_rfl) (by kernel_rfl) (by kernel_rfl) (by repeat (first | exact List.Sublist.refl _ | exact List.nil_sublist _ | refine List.Sublist.cons_cons _ ?_ | refine List.Sublist.cons _ ?_)) (yld_neg (r := -(er : Int)) rfl (wrap_i64' _ (by omega) (by omega))) rfl ?_
              refine any_one (listed' := [true, true, true, true, true, true, true, true, true, true, true, true, false, false, false, false].toArray) 11 (by kernel_rfl) rfl rfl ?_
              refine lst_call_pul (X := Nat × Int) (vs := [_, _, _]) hb (fun y => hatO nA nums.length nc (tk2 + 1 + 1 + 1 + 1) (y.1)) (fun y => y.1 < 18446744073709551616 ∧ (-(er : Int)) ≤ y.2 ∧ y.2 ≤ (er : Int)) (fun y => .int .i64 y.2) rfl rfl F.ent15 (fun a w ha => (From_c (C := ⟨Tryd.prog, B, w0, _, _⟩) rfl hB hN (tk := tk2 + 1 + 1 + 1) (st := s13) (lo := (-(er : Int))) (hi := (er : Int)) (by omega) hs13 (by omega) (by omega) (by omega) ha).mono (fun e w' h => by obtain ⟨s', x, h1, h2, h3, h4, h5⟩ := h; exact ⟨(s', x), ⟨h1, h2, h3⟩, h4, h5⟩)) ?_
              rintro ⟨s14, df⟩ ⟨hs14, hdfa, hdfb⟩
              (try dsimp only at hs14 hdfa hdfb ⊢)
              refine lst_nil ?_
              refine any_next (by repeat (first | exact List.Sublist.refl _ | exact List.nil_sublist _ | refine List.Sublist.cons_cons _ ?_ | refine List.Sublist.cons _ ?_)) ?_
              refine any_take (listed' := [true, true, true, true, true, true, true, true, true, true, true, true, true, false, false, false].toArray) 12 rfl rfl rfl (by kernel_rfl) (by kernel_rfl) (by kernel_rfl) (by repeat (first | exact List.Sublist.refl _ | exact List.nil_sublist _ | refine List.Sublist.cons_cons _ ?_ | refine List.Sublist.cons _ ?_)) (yld_int (v := .int .i64 (((ws.getD v1 0 : Nat) : Int) + df)) rfl rfl (fun w => bin_add w (wrap_i64' _ (by omega) (by omega)))) rfl ?_
              refine any_take (listed' := [true, true, true, true, true, true, true, true, true, true, true, true, true, true, false, false].toArray) 13 rfl rfl rfl (by kernel_rfl) (by kernel_rfl) (by kernel_rfl) (by repeat (first | exact List.Sublist.refl _ | exact List.nil_sublist _ | refine List.Sublist.cons_cons _ ?_ | refine List.Sublist.cons _ ?_)) (yld_max rfl rfl) rfl ?_
              obtain ⟨sh, hsh⟩ : ∃ sh : Nat, (if (0 : Int) < ((ws.getD v1 0 : Nat) : Int) + df then ((ws.getD v1 0 : Nat) : Int) + df else 0) = (sh : Int) := ⟨(if (0 : Int) < ((ws.getD v1 0 : Nat) : Int) + df then ((ws.getD v1 0 : Nat) : Int) + df else 0).toNat, by split <;> omega⟩
              rw [hsh]
              have hsh2 : sh ≤ 60 ∧ (sh : Int) - er ≤ (ws.getD v1 0 : Int) ∧ ((ws.getD v1 0 : Nat) : Int) ≤ (sh : Int) + er := by split at hsh <;> omega
              refine any_take (listed' := [true, true, true, true, true, true, true, true, true, true, true, true, true, true, true, false].toArray) 14 rfl rfl rfl (by kernel_rfl) (by kernel_rfl) (by kernel_rfl) (by repeat (first | exact List.Sublist.refl _ | exact List.nil_sublist _ | refine List.Sublist.cons_cons _ ?_ | refine List.Sublist.cons _ ?_)) (yld_field_z rfl F.fi59_2 F.ti3) rfl ?_
              refine any_one (listed' := [true, true, true, true, true, true, true, true, true, true, true, true, true, true, true, true].toArray) 15 (by kernel_rfl) rfl rfl ?_
              refine lst_store rfl rfl F.ti3 rfl ?_
              refine lst_nil ?_
              refine any_next (by repeat (first | exact List.Sublist.refl _ | exact List.nil_sublist _ | refine List.Sublist.cons_cons _ ?_ | refine List.Sublist.cons _ ?_)) ?_
              refine any_done rfl (by kernel_rfl) ?_
              exact ex_ghost ⟨s14, sh⟩ ⟨hs14, hsh2⟩ (by repeat (first | exact Sub.nil _ | refine Sub.cons rfl ?_)) (by repeat (first | exact Pck.nil _ | exact Pck.refl _ | (apply Pck.cons; focus ((repeat (first | exact Rem.here _ | apply Rem.there)); done)) | refine Pck.skip _ ?_))
          · skip
            refine lst_load rfl rfl F.one3 ?_
            refine lst_nil ?_
            refine any_next (by repeat (first | exact List.Sublist.refl _ | exact List.nil_sublist _ | refine List.Sublist.cons_cons _ ?_ | refine List.Sublist.cons _ ?_)) ?_
            refine any_take (listed' := [true, true, false, false, false, true, true, true, true, true, false, false, false, false, false, false].toArray) 8 rfl rfl rfl (by kernel_rfl) (by kernel_rfl) (by kernel_rfl) (by repeat (first | exact List.Sublist.refl _ | exact List.nil_sublist _ | refine List.Sublist.cons_cons _ ?_ | refine List.Sublist.cons _ ?_)) (yld_neg (r := -(er : Int)) rfl (wrap_i64' _ (by omega) (by omega))) rfl ?_
            refine any_two (l1 := [true, true, true, false, false, true, true, true, true, true, false, false, false, false, false, false].toArray) (l2 := [true, true, false, false, false, true, true, true, true, true, true, false, false, false, false, false].toArray) 2 10 (by kernel_rfl) rfl rfl rfl rfl ?_ ?_
            · skip
              refine lst_load rfl rfl F.one3 ?_
              refine lst_nil ?_
              refine any_next (by repeat (first | exact List.Sublist.refl _ | exact List.nil_sublist _ | refine List.Sublist.cons_cons _ ?_ | refine List.Sublist.cons _ ?_)) ?_
              refine any_take (listed' := [true, true, true, true, false, true, true, true, true, true, false, false, false, false, false, false].toArray) 3 rfl rfl rfl (by kernel_rfl) (by kernel_rfl) (by kernel_rfl) (by repeat (first | exact List.Sublist.refl _ | exact List.nil_sublist _ | refine List.Sublist.cons_cons _ ?_ | refine List.Sublist.cons _ ?_)) (yld_index (j := v1) rfl rfl Tryd.underlying22 F.ti3 rfl hv1n) rfl ?_
              refine any_take (listed' := [true, true, true, true, true, true, true, true, true, true, false, false, false, false, false, false].toArray) 4 rfl rfl rfl (by kernel_rfl) (by kernel_rfl) (by kernel_rfl) (by repeat (first | exact List.Sublist.refl _ | exact List.nil_sublist _ | refine List.Sublist.cons_cons _ ?_ | refine List.Sublist.cons _ ?_)) (yld_load_at (v := .int .i64 (((ws.getD v1 0 : Nat) : Int))) rfl F.one3 (fun a w ha => row_cell ha (InR.mem (A := some ⟨b25, 0, none⟩)) rfl (ints_get' (by omega)))) rfl ?_
              refine any_one (listed' := [true, true, true, true, true, true, true, true, true, true, true, false, false, false, false, false].toArray) 10 (by kernel_rfl) rfl rfl ?_
              refine lst_load rfl rfl F.one3 ?_
              refine lst_nil ?_
              refine any_next (by repeat (first | exact List.Sublist.refl _ | exact List.nil_sublist _ | refine List.Sublist.cons_cons _ ?_ | refine List.Sublist.cons _ ?_)) ?_
              refine any_one (listed' := [true, true, true, true, true, true, true, true, true, true, true, true, false, false, false, false].toArray) 11 (by kernel_rfl) rfl rfl ?_
              refine lst_call_pul (X := Nat × Int) (vs := [_, _, _]) hb (fun y => hatO nA nums.length nc (tk2 + 1 + 1 + 1 + 1) (y.1)) (fun y => y.1 < 18446744073709551616 ∧ (-(er : Int)) ≤ y.2 ∧ y.2 ≤ (er : Int)) (fun y => .int .i64 y.2) rfl rfl F.ent15 (fun a w ha => (From_c (C := ⟨Tryd.prog, B, w0, _, _⟩) rfl hB hN (tk := tk2 + 1 + 1 + 1) (st := s13) (lo := (-(er : Int))) (hi := (er : Int)) (by omega) hs13 (by omega) (by omega) (by omega) ha).mono (fun e w' h => by obtain ⟨s', x, h1, h2, h3, h4, h5⟩ := h; exact ⟨(s', x), ⟨h1, h2, h3⟩, h4, h5⟩)) ?_
              rintro ⟨s14, df⟩ ⟨hs14, hdfa, hdfb⟩
              (try dsimp only at hs14 hdfa hdfb ⊢)
              refine lst_nil ?_
              refine any_next (by repeat (first | exact List.Sublist.refl _ | exact List.nil_sublist _ | refine List.Sublist.cons_cons _ ?_ | refine List.Sublist.cons _ ?_)) ?_
              refine any_take (listed' := [true, true, true, true, true, true, true, true, true, true, true, true, true, false, false, false].toArray) 12 rfl rfl rfl (by kernel_rfl) (by kernel_rfl) (by kernel_rfl) (by repeat (first | exact List.Sublist.refl _ | exact List.nil_sublist _ | refine List.Sublist.cons_cons _ ?_ | refine List.Sublist.cons _ ?_)) (yld_int (v := .int .i64 (((ws.getD v1 0 : Nat) : Int) + df)) rfl rfl (fun w => bin_add w (wrap_i64' _ (by omega) (by omega)))) rfl ?_
              refine any_take (listed' := [true, true, true, true, true, true, true, true, true, true, true, true, true, true, false, false].toArray) 13 rfl rfl rfl (by kernel_rfl) (by kernel_rfl) (by kernel_rfl) (by repeat (first | exact List.Sublist.refl _ | exact List.nil_sublist _ | refine List.Sublist.cons_cons _ ?_ | refine List.Sublist.cons _ ?_)) (yld_max rfl rfl) rfl ?_
              obtain ⟨sh, hsh⟩ : ∃ sh : Nat, (if (0 : Int) < ((ws.getD v1 0 : Nat) : Int) + df then ((ws.getD v1 0 : Nat) : Int) + df else 0) = (sh : Int) := ⟨(if (0 : Int) < ((ws.getD v1 0 : Nat) : Int) + df then ((ws.getD v1 0 : Nat) : Int) + df else 0).toNat, by split <;> omega⟩
              rw [hsh]
              have hsh2 : sh ≤ 60 ∧ (sh : Int) - er ≤ (ws.getD v1 0 : Int) ∧ ((ws.getD v1 0 : Nat) : Int) ≤ (sh : Int) + er := by split at hsh <;> omega
              refine any_take (listed' := [true, true, true, true, true, true, true, true, true, true, true, true, true, true, true, false].toArray) 14 rfl rfl rfl (by kernel_rfl) (by kernel_rfl) (by kernel_rfl) (by repeat (first | exact List.Sublist.refl _ | exact List.nil_sublist _ | refine List.Sublist.cons_cons _ ?_ | refine List.Sublist.cons _ ?_)) (yld_field_z rfl F.fi59_2 F.ti3) rfl ?_
              refine any_one (listed' := [true, true, true, true, true, true, true, true, true, true, true, true, true, true, true, true].toArray) 15 (by kernel_rfl) rfl rfl ?_
              refine lst_store rfl rfl F.ti3 rfl ?_
              refine lst_nil ?_
              refine any_next (by repeat (first | exact List.Sublist.refl _ | exact List.nil_sublist _ | refine List.Sublist.cons_cons _ ?_ | refine List.Sublist.cons _ ?_)) ?_
              refine any_done rfl (by kernel_rfl) ?_
              exact ex_ghost ⟨s14, sh⟩ ⟨hs14, hsh2⟩ (by repeat (first | exact Sub.nil _ | refine Sub.cons rfl ?_)) (by repeat (first | exact Pck.nil _ | exact Pck.refl _ | (apply Pck.cons; focus ((repeat (first | exact Rem.here _ | apply Rem.there)); done)) | refine Pck.skip _ ?_))
            · skip
              refine lst_load rfl rfl F.one3 ?_
              refine lst_nil ?_
              refine any_next (by repeat (first | exact List.Sublist.refl _ | exact List.nil_sublist _ | refine List.Sublist.cons_cons _ ?_ | refine List.Sublist.cons _ ?_)) ?_
              refine any_two (l1 := [true, true, true, false, false, true, true, true, true, true, true, false, false, false, false, false].toArray) (l2 := [true, true, false, false, false, true, true, true, true, true, true, true, false, false, false, false].toArray) 2 11 (by kernel_rfl) rfl rfl rfl rfl ?_ ?_
              · skip
                refine lst_load rfl rfl F.one3 ?_
                refine lst_nil ?_
                refine any_next (by repeat (first | exact List.Sublist.refl _ | exact List.nil_sublist _ | refine List.Sublist.cons_cons _ ?_ | refine List.Sublist.cons _ ?_)) ?_
                refine any_take (listed' := [true, true, true, true, false, true, true, true, true, true, true, false, false, false, false, false].toArray) 3 rfl rfl rfl (by kernel_rfl) (by kernel_rfl) (by kernel_rfl) (by repeat (first | exact List.Sublist.refl _ | exact List.nil_sublist _ | refine List.Sublist.cons_cons _ ?_ | refine List.Sublist.cons _ ?_)) (yld_index (j := v1) rfl rfl Tryd.underlying22 F.ti3 rfl hv1n) rfl ?_
                refine any_take (listed' := [true, true, true, true, true, true, true, true, true, true, true, false, false, false, false, false].toArray) 4 rfl rfl rfl (by kernel_rfl) (by kernel_rfl) (by kernel_rfl) (by repeat (first | exact List.Sublist.refl _ | exact List.nil_sublist _ | refine List.Sublist.cons_cons _ ?_ | refine List.Sublist.cons _ ?_)) (yld_load_at (v := .int .i64 (((ws.getD v1 0 : Nat) : Int))) rfl F.one3 (fun a w ha => row_cell ha (InR.mem (A := some ⟨b25, 0, none⟩)) rfl (ints_get' (by omega)))) rfl ?_
                refine any_one (listed' := [true, true, true, true, true, true, true, true, true, true, true, true, false, false, false, false].toArray) 11 (by kernel_rfl) rfl rfl ?_
                refine lst_call_pul (X := Nat × Int) (vs := [_, _, _]) hb (fun y => hatO nA nums.length nc (tk2 + 1 + 1 + 1 + 1) (y.1)) (fun y => y.1 < 18446744073709551616 ∧ (-(er : Int)) ≤ y.2 ∧ y.2 ≤ (er : Int)) (fun y => .int .i64 y.2) rfl rfl F.ent15 (fun a w ha => (From_c (C := ⟨Tryd.prog, B, w0, _, _⟩) rfl hB hN (tk := tk2 + 1 + 1 + 1) (st := s13) (lo := (-(er : Int))) (hi := (er : Int)) (by omega) hs13 (by omega) (by omega) (by omega) ha).mono (fun e w' h => by obtain ⟨s', x, h1, h2, h3, h4, h5⟩ := h; exact ⟨(s', x), ⟨h1, h2, h3⟩, h4, h5⟩)) ?_
                rintro ⟨s14, df⟩ ⟨hs14, hdfa, hdfb⟩
                (try dsimp only at hs14 hdfa hdfb ⊢)
                refine lst_nil ?_
                refine any_next (by repeat (first | exact List.Sublist.refl _ | exact List.nil_sublist _ | refine List.Sublist.cons_cons _ ?_ | refine List.Sublist.cons _ ?_)) ?_
                refine any_take (listed' := [true, true, true, true, true, true, true, true, true, true, true, true, true, false, false, false].toArray) 12 rfl rfl rfl (by kernel_rfl) (by kernel_rfl) (by kernel_rfl) (by repeat (first | exact List.Sublist.refl _ | exact List.nil_sublist _ | refine List.Sublist.cons_cons _ ?_ | refine List.Sublist.cons _ ?_)) (yld_int (v := .int .i64 (((ws.getD v1 0 : Nat) : Int) + df)) rfl rfl (fun w => bin_add w (wrap_i64' _ (by omega) (by omega)))) rfl ?_
                refine any_take (listed' := [true, true, true, true, true, true, true, true, true, true, true, true, true, true, false, false].toArray) 13 rfl rfl rfl (by kernel_rfl) (by kernel_rfl) (by kernel_rfl) (by repeat (first | exact List.Sublist.refl _ | exact List.nil_sublist _ | refine List.Sublist.cons_cons _ ?_ | refine List.Sublist.cons _ ?_)) (yld_max rfl rfl) rfl ?_
                obtain ⟨sh, hsh⟩ : ∃ sh : Nat, (if (0 : Int) < ((ws.getD v1 0 : Nat) : Int) + df then ((ws.getD v1 0 : Nat) : Int) + df else 0) = (sh : Int) := ⟨(if (0 : Int) < ((ws.getD v1 0 : Nat) : Int) + df then ((ws.getD v1 0 : Nat) : Int) + df else 0).toNat, by split <;> omega⟩
                rw [hsh]
                have hsh2 : sh ≤ 60 ∧ (sh : Int) - er ≤ (ws.getD v1 0 : Int) ∧ ((ws.getD v1 0 : Nat) : Int) ≤ (sh : Int) + er := by split at hsh <;> omega
                refine any_take (listed' := [true, true, true, true, true, true, true, true, true, true, true, true, true, true, true, false].toArray) 14 rfl rfl rfl (by kernel_rfl) (by kernel_rfl) (by kernel_rfl) (by repeat (first | exact List.Sublist.refl _ | exact List.nil_sublist _ | refine List.Sublist.cons_cons _ ?_ | refine List.Sublist.cons _ ?_)) (yld_field_z rfl F.fi59_2 F.ti3) rfl ?_
                refine any_one (listed' := [true, true, true, true, true, true, true, true, true, true, true, true, true, true, true, true].toArray) 15 (by kernel_rfl) rfl rfl ?_
                refine lst_store rfl rfl F.ti3 rfl ?_
                refine lst_nil ?_
                refine any_next (by repeat (first | exact List.Sublist.refl _ | exact List.nil_sublist _ | refine List.Sublist.cons_cons _ ?_ | refine List.Sublist.cons _ ?_)) ?_
                refine any_done rfl (by kernel_rfl) ?_
                exact ex_ghost ⟨s14, sh⟩ ⟨hs14, hsh2⟩ (by repeat (first | exact Sub.nil _ | refine Sub.cons rfl ?_)) (by repeat (first | exact Pck.nil _ | exact Pck.refl _ | (apply Pck.cons; focus ((repeat (first | exact Rem.here _ | apply Rem.there)); done)) | refine Pck.skip _ ?_))
              · skip
                refine lst_call_pul (X := Nat × Int) (vs := [_, _, _]) hb (fun y => hatO nA nums.length nc (tk2 + 1 + 1 + 1 + 1) (y.1)) (fun y => y.1 < 18446744073709551616 ∧ (-(er : Int)) ≤ y.2 ∧ y.2 ≤ (er : Int)) (fun y => .int .i64 y.2) rfl rfl F.ent15 (fun a w ha => (From_c (C := ⟨Tryd.prog, B, w0, _, _⟩) rfl hB hN (tk := tk2 + 1 + 1 + 1) (st := s13) (lo := (-(er : Int))) (hi := (er : Int)) (by omega) hs13 (by omega) (by omega) (by omega) ha).mono (fun e w' h => by obtain ⟨s', x, h1, h2, h3, h4, h5⟩ := h; exact ⟨(s', x), ⟨h1, h2, h3⟩, h4, h5⟩)) ?_
                rintro ⟨s14, df⟩ ⟨hs14, hdfa, hdfb⟩
                (try dsimp only at hs14 hdfa hdfb ⊢)
                refine lst_nil ?_
                refine any_next (by repeat (first | exact List.Sublist.refl _ | exact List.nil_sublist _ | refine List.Sublist.cons_cons _ ?_ | refine List.Sublist.cons _ ?_)) ?_
                refine any_one (listed' := [true, true, true, false, false, true, true, true, true, true, true, true, false, false, false, false].toArray) 2 (by kernel_rfl) rfl rfl ?_
                refine lst_load rfl rfl F.one3 ?_
                refine lst_nil ?_
                refine any_next (by repeat (first | exact List.Sublist.refl _ | exact List.nil_sublist _ | refine List.Sublist.cons_cons _ ?_ | refine List.Sublist.cons _ ?_)) ?_
                refine any_take (listed' := [true, true, true, true, false, true, true, true, true, true, true, true, false, false, false, false].toArray) 3 rfl rfl rfl (by kernel_rfl) (by kernel_rfl) (by kernel_rfl) (by repeat (first | exact List.Sublist.refl _ | exact List.nil_sublist _ | refine List.Sublist.cons_cons _ ?_ | refine List.Sublist.cons _ ?_)) (yld_index (j := v1) rfl rfl Tryd.underlying22 F.ti3 rfl hv1n) rfl ?_
                refine any_take (listed' := [true, true, true, true, true, true, true, true, true, true, true, true, false, false, false, false].toArray) 4 rfl rfl rfl (by kernel_rfl) (by kernel_rfl) (by kernel_rfl) (by repeat (first | exact List.Sublist.refl _ | exact List.nil_sublist _ | refine List.Sublist.cons_cons _ ?_ | refine List.Sublist.cons _ ?_)) (yld_load_at (v := .int .i64 (((ws.getD v1 0 : Nat) : Int))) rfl F.one3 (fun a w ha => row_cell ha (InR.mem (A := some ⟨b25, 0, none⟩)) rfl (ints_get' (by omega)))) rfl ?_
                refine any_take (listed' := [true, true, true, true, true, true, true, true, true, true, true, true, true, false, false, false].toArray) 12 rfl rfl rfl (by kernel_rfl) (by kernel_rfl) (by kernel_rfl) (by repeat (first | exact List.Sublist.refl _ | exact List.nil_sublist _ | refine List.Sublist.cons_cons _ ?_ | refine List.Sublist.cons _ ?_)) (yld_int (v := .int .i64 (((ws.getD v1 0 : Nat) : Int) + df)) rfl rfl (fun w => bin_add w (wrap_i64' _ (by omega) (by omega)))) rfl ?_
                refine any_take (listed' := [true, true, true, true, true, true, true, true, true, true, true, true, true, true, false, false].toArray) 13 rfl rfl rfl (by kernel_rfl) (by kernel_rfl) (by kernel_rfl) (by repeat (first | exact List.Sublist.refl _ | exact List.nil_sublist _ | refine List.Sublist.cons_cons _ ?_ | refine List.Sublist.cons _ ?_)) (yld_max rfl rfl) rfl ?_
                obtain ⟨sh, hsh⟩ : ∃ sh : Nat, (if (0 : Int) < ((ws.getD v1 0 : Nat) : Int) + df then ((ws.getD v1 0 : Nat) : Int) + df else 0) = (sh : Int) := ⟨(if (0 : Int) < ((ws.getD v1 0 : Nat) : Int) + df then ((ws.getD v1 0 : Nat) : Int) + df else 0).toNat, by split <;> omega⟩
                rw [hsh]
                have hsh2 : sh ≤ 60 ∧ (sh : Int) - er ≤ (ws.getD v1 0 : Int) ∧ ((ws.getD v1 0 : Nat) : Int) ≤ (sh : Int) + er := by split at hsh <;> omega
                refine any_take (listed' := [true, true, true, true, true, true, true, true, true, true, true, true, true, true, true, false].toArray) 14 rfl rfl rfl (by kernel_rfl) (by kernel_rfl) (by kernel_rfl) (by repeat (first | exact List.Sublist.refl _ | exact List.nil_sublist _ | refine List.Sublist.cons_cons _ ?_ | refine List.Sublist.cons _ ?_)) (yld_field_z rfl F.fi59_2 F.ti3) rfl ?_
                refine any_one (listed' := [true, true, true, true, true, true, true, true, true, true, true, true, true, true, true, true].toArray) 15 (by kernel_rfl) rfl rfl ?_
                refine lst_store rfl rfl F.ti3 rfl ?_
                refine lst_nil ?_
                refine any_next (by repeat (first | exact List.Sublist.refl _ | exact List.nil_sublist _ | refine List.Sublist.cons_cons _ ?_ | refine List.Sublist.cons _ ?_)) ?_
                refine any_done rfl (by kernel_rfl) ?_
                exact ex_ghost ⟨s14, sh⟩ ⟨hs14, hsh2⟩ (by repeat (first | exact Sub.nil _ | refine Sub.cons rfl ?_)) (by repeat (first | exact Pck.nil _ | exact Pck.refl _ | (apply Pck.cons; focus ((repeat (first | exact Rem.here _ | apply Rem.there)); done)) | refine Pck.skip _ ?_))
          · skip
            refine lst_load rfl rfl F.one3 ?_
            refine lst_nil ?_
            refine any_next (by repeat (first | exact List.Sublist.refl _ | exact List.nil_sublist _ | refine List.Sublist.cons_cons _ ?_ | refine List.Sublist.cons _ ?_)) ?_
            refine any_two (l1 := [true, true, true, false, false, true, true, false, false, true, true, false, false, false, false, false].toArray) (l2 := [true, true, false, false, false, true, true, true, false, true, true, false, false, false, false, false].toArray) 2 7 (by kernel_rfl) rfl rfl rfl rfl ?_ ?_
            · skip
              refine lst_load rfl rfl F.one3 ?_
              refine lst_nil ?_
              refine any_next (by repeat (first | exact List.Sublist.refl _ | exact List.nil_sublist _ | refine List.Sublist.cons_cons _ ?_ | refine List.Sublist.cons _ ?_)) ?_
              refine any_take (listed' := [true, true, true, true, false, true, true, false, false, true, true, false, false, false, false, false].toArray) 3 rfl rfl rfl (by kernel_rfl) (by kernel_rfl) (by kernel_rfl) (by repeat (first | exact List.Sublist.refl _ | exact List.nil_sublist _ | refine List.Sublist.cons_cons _ ?_ | refine List.Sublist.cons _ ?_)) (yld_index (j := v1) rfl rfl Tryd.underlying22 F.ti3 rfl hv1n) rfl ?_
              refine any_take (listed' := [true, true, true, true, true, true, true, false, false, true, true, false, false, false, false, false].toArray) 4 rfl rfl rfl (by kernel_rfl) (by kernel_rfl) (by kernel_rfl) (by repeat (first | exact List.Sublist.refl _ | exact List.nil_sublist _ | refine List.Sublist.cons_cons _ ?_ | refine List.Sublist.cons _ ?_)) (yld_load_at (v := .int .i64 (((ws.getD v1 0 : Nat) : Int))) rfl F.one3 (fun a w ha => row_cell ha (InR.mem (A := some ⟨b25, 0, none⟩)) rfl (ints_get' (by omega)))) rfl ?_
              refine any_one (listed' := [true, true, true, true, true, true, true, true, false, true, true, false, false, false, false, false].toArray) 7 (by kernel_rfl) rfl rfl ?_
              refine lst_load rfl rfl F.one3 ?_
              refine lst_nil ?_
              refine any_next (by repeat (first | exact List.Sublist.refl _ | exact List.nil_sublist _ | refine List.Sublist.cons_cons _ ?_ | refine List.Sublist.cons _ ?_)) ?_
              refine any_take (listed' := [true, true, true, true, true, true, true, true, true, true, true, false, false, false, false, false].toArray) 8 rfl rfl rfl (by kernel_rfl) (by kernel_rfl) (by kernel_rfl) (by repeat (first | exact List.Sublist.refl _ | exact List.nil_sublist _ | refine List.Sublist.cons_cons _ ?_ | refine List.Sublist.cons _ ?_)) (yld_neg (r := -(er : Int)) rfl (wrap_i64' _ (by omega) (by omega))) rfl ?_
              refine any_one (listed' := [true, true, true, true, true, true, true, true, true, true, true, true, false, false, false, false].toArray) 11 (by kernel_rfl) rfl rfl ?_
              refine lst_call_pul (X := Nat × Int) (vs := [_, _, _]) hb (fun y => hatO nA nums.length nc (tk2 + 1 + 1 + 1 + 1) (y.1)) (fun y => y.1 < 18446744073709551616 ∧ (-(er : Int)) ≤ y.2 ∧ y.2 ≤ (er : Int)) (fun y => .int .i64 y.2) rfl rfl F.ent15 (fun a w ha => (From_c (C := ⟨Tryd.prog, B, w0, _, _⟩) rfl hB hN (tk := tk2 + 1 + 1 + 1) (st := s13) (lo := (-(er : Int))) (hi := (er : Int)) (by omega) hs13 (by omega) (by omega) (by omega) ha).mono (fun e w' h => by obtain ⟨s', x, h1, h2, h3, h4, h5⟩ := h; exact ⟨(s', x), ⟨h1, h2, h3⟩, h4, h5⟩)) ?_
              rintro ⟨s14, df⟩ ⟨hs14, hdfa, hdfb⟩
              (try dsimp only at hs14 hdfa hdfb ⊢)
              refine lst_nil ?_
              refine any_next (by repeat (first | exact List.Sublist.refl _ | exact List.nil_sublist _ | refine List.Sublist.cons_cons _ ?_ | refine List.Sublist.cons _ ?_)) ?_
              refine any_take (listed' := [true, true, true, true, true, true, true, true, true, true, true, true, true, false, false, false].toArray) 12 rfl rfl rfl (by kernel_rfl) (by kernel_rfl) (by kernel_rfl) (by repeat (first | exact List.Sublist.refl _ | exact List.nil_sublist _ | refine List.Sublist.cons_cons _ ?_ | refine List.Sublist.cons _ ?_)) (yld_int (v := .int .i64 (((ws.getD v1 0 : Nat) : Int) + df)) rfl rfl (fun w => bin_add w (wrap_i64' _ (by omega) (by omega)))) rfl ?_
              refine any_take (listed' := [true, true, true, true, true, true, true, true, true, true, true, true, true, true, false, false].toArray) 13 rfl rfl rfl (by kernel_rfl) (by kernel_rfl) (by kernel_rfl) (by repeat (first | exact List.Sublist.refl _ | exact List.nil_sublist _ | refine List.Sublist.cons_cons _ ?_ | refine List.Sublist.cons _ ?_)) (yld_max rfl rfl) rfl ?_
              obtain ⟨sh, hsh⟩ : ∃ sh : Nat, (if (0 : Int) < ((ws.getD v1 0 : Nat) : Int) + df then ((ws.getD v1 0 : Nat) : Int) + df else 0) = (sh : Int) := ⟨(if (0 : Int) < ((ws.getD v1 0 : Nat) : Int) + df then ((ws.getD v1 0 : Nat) : Int) + df else 0).toNat, by split <;> omega⟩
              rw [hsh]
              have hsh2 : sh ≤ 60 ∧ (sh : Int) - er ≤ (ws.getD v1 0 : Int) ∧ ((ws.getD v1 0 : Nat) : Int) ≤ (sh : Int) + er := by split at hsh <;> omega
              refine any_take (listed' := [true, true, true, true, true, true, true, true, true, true, true, true, true, true, true, false].toArray) 14 rfl rfl rfl (by kernel_rfl) (by kernel_rfl) (by kernel_rfl) (by repeat (first | exact List.Sublist.refl _ | exact List.nil_sublist _ | refine List.Sublist.cons_cons _ ?_ | refine List.Sublist.cons _ ?_)) (yld_field_z rfl F.fi59_2 F.ti3) rfl ?_
              refine any_one (listed' := [true, true, true, true, true, true, true, true, true, true, true, true, true, true, true, true].toArray) 15 (by kernel_rfl) rfl rfl ?_
              refine lst_store rfl rfl F.ti3 rfl ?_
              refine lst_nil ?_
              refine any_next (by repeat (first | exact List.Sublist.refl _ | exact List.nil_sublist _ | refine List.Sublist.cons_cons _ ?_ | refine List.Sublist.cons _ ?_)) ?_
              refine any_done rfl (by kernel_rfl) ?_
              exact ex_ghost ⟨s14, sh⟩ ⟨hs14, hsh2⟩ (by repeat (first | exact Sub.nil _ | refine Sub.cons rfl ?_)) (by repeat (first | exact Pck.nil _ | exact Pck.refl _ | (apply Pck.cons; focus ((repeat (first | exact Rem.here _ | apply Rem.there)); done)) | refine Pck.skip _ ?_))
            · skip
              refine lst_load rfl rfl F.one3 ?_
              refine lst_nil ?_
              refine any_next (by repeat (first | exact List.Sublist.refl _ | exact List.nil_sublist _ | refine List.Sublist.cons_cons _ ?_ | refine List.Sublist.cons _ ?_)) ?_
              refine any_take (listed' := [true, true, false, false, false, true, true, true, true, true, true, false, false, false, false, false].toArray) 8 rfl rfl rfl (by kernel_rfl) (by kernel_rfl) (by kernel_rfl) (by repeat (first | exact List.Sublist.refl _ | exact List.nil_sublist _ | refine List.Sublist.cons_cons _ ?_ | refine List.Sublist.cons _ ?_)) (yld_neg (r := -(er : Int)) rfl (wrap_i64' _ (by omega) (by omega))) rfl ?_
              refine any_two (l1 := [true, true, true, false, false, true, true, true, true, true, true, false, false, false, false, false].toArray) (l2 := [true, true, false, false, false, true, true, true, true, true, true, true, false, false, false, false].toArray) 2 11 (by kernel_rfl) rfl rfl rfl rfl ?_ ?_
              · skip
                refine lst_load rfl rfl F.one3 ?_
                refine lst_nil ?_
                refine any_next (by repeat (first | exact List.Sublist.refl _ | exact List.nil_sublist _ | refine List.Sublist.cons_cons _ ?_ | refine List.Sublist.cons _ ?_)) ?_
                refine any_take (listed' := [true, true, true, true, false, true, true, true, true, true, true, false, false, false, false, false].toArray) 3 rfl rfl rfl (by kernel_rfl) (by kernel_rfl) (by kernel_rfl) (by repeat (first | exact List.Sublist.refl _ | exact List.nil_sublist _ | refine List.Sublist.cons_cons _ ?_ | refine List.Sublist.cons _ ?_)) (yld_index (j := v1) rfl rfl Tryd.underlying22 F.ti3 rfl hv1n) rfl ?_
                refine any_take (listed' := [true, true, true, true, true, true, true, true, true, true, true, false, false, false, false, false].toArray) 4 rfl rfl rfl (by kernel_rfl) (by kernel_rfl) (by kernel_rfl) (by repeat (first | exact List.Sublist.refl _ | exact List.nil_sublist _ | refine List.Sublist.cons_cons _ ?_ | refine List.Sublist.cons _ ?_)) (yld_load_at (v := .int .i64 (((ws.getD v1 0 : Nat) : Int))) rfl F.one3 (fun a w ha => row_cell ha (InR.mem (A := some ⟨b25, 0, none⟩)) rfl (ints_get' (by omega)))) rfl ?_
                refine any_one (listed' := [true, true, true, true, true, true, true, true, true, true, true, true, false, false, false, false].toArray) 11 (by kernel_rfl) rfl rfl ?_
                refine lst_call_pul (X := Nat × Int) (vs := [_, _, _]) hb (fun y => hatO nA nums.length nc (tk2 + 1 + 1 + 1 + 1) (y.1)) (fun y => y.1 < 18446744073709551616 ∧ (-(er : Int)) ≤ y.2 ∧ y.2 ≤ (er : Int)) (fun y => .int .i64 y.2) rfl rfl F.ent15 (fun a w ha => (From_c (C := ⟨Tryd.prog, B, w0, _, _⟩) rfl hB hN (tk := tk2 + 1 + 1 + 1) (st := s13) (lo := (-(er : Int))) (hi := (er : Int)) (by omega) hs13 (by omega) (by omega) (by omega) ha).mono (fun e w' h => by obtain ⟨s', x, h1, h2, h3, h4, h5⟩ := h; exact ⟨(s', x), ⟨h1, h2, h3⟩, h4, h5⟩)) ?_
                rintro ⟨s14, df⟩ ⟨hs14, hdfa, hdfb⟩
                (try dsimp only at hs14 hdfa hdfb ⊢)
                refine lst_nil ?_
                refine any_next (by repeat (first | exact List.Sublist.refl _ | exact List.nil_sublist _ | refine List.Sublist.cons_cons _ ?_ | refine List.Sublist.cons _ ?_)) ?_
                refine any_take (listed' := [true, true, true, true, true, true, true, true, true, true, true, true, true, false, false, false].toArray) 12 rfl rfl rfl (by kernel_rfl) (by kernel_rfl) (by kernel_rfl) (by repeat (first | exact List.Sublist.refl _ | exact List.nil_sublist _ | refine List.Sublist.cons_cons _ ?_ | refine List.Sublist.cons _ ?_)) (yld_int (v := .int .i64 (((ws.getD v1 0 : Nat) : Int) + df)) rfl rfl (fun w => bin_add w (wrap_i64' _ (by omega) (by omega)))) rfl ?_
                refine any_take (listed' := [true, true, true, true, true, true, true, true, true, true, true, true, true, true, false, false].toArray) 13 rfl rfl rfl (by kernel_rfl) (by kernel_rfl) (by kernel_rfl) (by repeat (first | exact List.Sublist.refl _ | exact List.nil_sublist _ | refine List.Sublist.cons_cons _ ?_ | refine List.Sublist.cons _ ?_)) (yld_max rfl rfl) rfl ?_
                obtain ⟨sh, hsh⟩ : ∃ sh : Nat, (if (0 : Int) < ((ws.getD v1 0 : Nat) : Int) + df then ((ws.getD v1 0 : Nat) : Int) + df else 0) = (sh : Int) := ⟨(if (0 : Int) < ((ws.getD v1 0 : Nat) : Int) + df then ((ws.getD v1 0 : Nat) : Int) + df else 0).toNat, by split <;> omega⟩
                rw [hsh]
                have hsh2 : sh ≤ 60 ∧ (sh : Int) - er ≤ (ws.getD v1 0 : Int) ∧ ((ws.getD v1 0 : Nat) : Int) ≤ (sh : Int) + er := by split at hsh <;> omega
                refine any_take (listed' := [true, true, true, true, true, true, true, true, true, true, true, true, true, true, true, false].toArray) 14 rfl rfl rfl (by kernel_rfl) (by kernel_rfl) (by kernel_rfl) (by repeat (first | exact List.Sublist.refl _ | exact List.nil_sublist _ | refine List.Sublist.cons_cons _ ?_ | refine List.Sublist.cons _ ?_)) (yld_field_z rfl F.fi59_2 F.ti3) rfl ?_
                refine any_one (listed' := [true, true, true, true, true, true, true, true, true, true, true, true, true, true, true, true].toArray) 15 (by kernel_rfl) rfl rfl ?_
                refine lst_store rfl rfl F.ti3 rfl ?_
                refine lst_nil ?_
                refine any_next (by repeat (first | exact List.Sublist.refl _ | exact List.nil_sublist _ | refine List.Sublist.cons_cons _ ?_ | refine List.Sublist.cons _ ?_)) ?_
                refine any_done rfl (by kernel_rfl) ?_
                exact ex_ghost ⟨s14, sh⟩ ⟨hs14, hsh2⟩ (by repeat (first | exact Sub.nil _ | refine Sub.cons rfl ?_)) (by repeat (first | exact Pck.nil _ | exact Pck.refl _ | (apply Pck.cons; focus ((repeat (first | exact Rem.here _ | apply Rem.there)); done)) | refine Pck.skip _ ?_))
              · skip
                refine lst_call_pul (X := Nat × Int) (vs := [_, _, _]) hb (fun y => hatO nA nums.length nc (tk2 + 1 + 1 + 1 + 1) (y.1)) (fun y => y.1 < 18446744073709551616 ∧ (-(er : Int)) ≤ y.2 ∧ y.2 ≤ (er : Int)) (fun y => .int .i64 y.2) rfl rfl F.ent15 (fun a w ha => (From_c (C := ⟨Tryd.prog, B, w0, _, _⟩) rfl hB hN (tk := tk2 + 1 + 1 + 1) (st := s13) (lo := (-(er : Int))) (hi := (er : Int)) (by omega) hs13 (by omega) (by omega) (by omega) ha).mono (fun e w' h => by obtain ⟨s', x, h1, h2, h3, h4, h5⟩ := h; exact ⟨(s', x), ⟨h1, h2, h3⟩, h4, h5⟩)) ?_
                rintro ⟨s14, df⟩ ⟨hs14, hdfa, hdfb⟩
                (try dsimp only at hs14 hdfa hdfb ⊢)
                refine lst_nil ?_
                refine any_next (by repeat (first | exact List.Sublist.refl _ | exact List.nil_sublist _ | refine List.Sublist.cons_cons _ ?_ | refine List.Sublist.cons _ ?_)) ?_
                refine any_one (listed' := [true, true, true, false, false, true, true, true, true, true, true, true, false, false, false, false].toArray) 2 (by kernel_rfl) rfl rfl ?_
                refine lst_load rfl rfl F.one3 ?_
                refine lst_nil ?_
                refine any_next (by repeat (first | exact List.Sublist.refl _ | exact List.nil_sublist _ | refine List.Sublist.cons_cons _ ?_ | refine List.Sublist.cons _ ?_)) ?_
                refine any_take (listed' := [true, true, true, true, false, true, true, true, true, true, true, true, false, false, false, false].toArray) 3 rfl rfl rfl (by kernel_rfl) (by kernel_rfl) (by kernel_rfl) (by repeat (first | exact List.Sublist.refl _ | exact List.nil_sublist _ | refine List.Sublist.cons_cons _ ?_ | refine List.Sublist.cons _ ?_)) (yld_index (j := v1) rfl rfl Tryd.underlying22 F.ti3 rfl hv1n) rfl ?_
                refine any_take (listed' := [true, true, true, true, true, true, true, true, true, true, true, true, false, false, false, false].toArray) 4 rfl rfl rfl (by kernel_rfl) (by kernel_rfl) (by kernel_rfl) (by repeat (first | exact List.Sublist.refl _ | exact List.nil_sublist _ | refine List.Sublist.cons_cons _ ?_ | refine List.Sublist.cons _ ?_)) (yld_load_at (v := .int .i64 (((ws.getD v1 0 : Nat) : Int))) rfl F.one3 (fun a w ha => row_cell ha (InR.mem (A := some ⟨b25, 0, none⟩)) rfl (ints_get' (by omega)))) rfl ?_
                refine any_take (listed' := [true, true, true, true, true, true, true, true, true, true, true, true, true, false, false, false].toArray) 12 rfl rfl rfl (by kernel_rfl) (by kernel_rfl) (by kernel_rfl) (by repeat (first | exact List.Sublist.refl _ | exact List.nil_sublist _ | refine List.Sublist.cons_cons _ ?_ | refine List.Sublist.cons _ ?_)) (yld_int (v := .int .i64 (((ws.getD v1 0 : Nat) : Int) + df)) rfl rfl (fun w => bin_add w (wrap_i64' _ (by omega) (by omega)))) rfl ?_
                refine any_take (listed' := [true, true, true, true, true, true, true, true, true, true, true, true, true, true, false, false].toArray) 13 rfl rfl rfl (by kernel_rfl) (by kernel_rfl) (by kernel_rfl) (by repeat (first | exact List.Sublist.refl _ | exact List.nil_sublist _ | refine List.Sublist.cons_cons _ ?_ | refine List.Sublist.cons _ ?_)) (yld_max rfl rfl) rfl ?_
                obtain ⟨sh, hsh⟩ : ∃ sh : Nat, (if (0 : Int) < ((ws.getD v1 0 : Nat) : Int) + df then ((ws.getD v1 0 : Nat) : Int) + df else 0) = (sh : Int) := ⟨(if (0 : Int) < ((ws.getD v1 0 : Nat) : Int) + df then ((ws.getD v1 0 : Nat) : Int) + df else 0).toNat, by split <;> omega⟩
                rw [hsh]
                have hsh2 : sh ≤ 60 ∧ (sh : Int) - er ≤ (ws.getD v1 0 : Int) ∧ ((ws.getD v1 0 : Nat) : Int) ≤ (sh : Int) + er := by split at hsh <;> omega
                refine any_take (listed' := [true, true, true, true, true, true, true, true, true, true, true, true, true, true, true, false].toArray) 14 rfl rfl rfl (by kernel_rfl) (by kernel_rfl) (by kernel_rfl) (by repeat (first | exact List.Sublist.refl _ | exact List.nil_sublist _ | refine List.Sublist.cons_cons _ ?_ | refine List.Sublist.cons _ ?_)) (yld_field_z rfl F.fi59_2 F.ti3) rfl ?_
                refine any_one (listed' := [true, true, true, true, true, true, true, true, true, true, true, true, true, true, true, true].toArray) 15 (by kernel_rfl) rfl rfl ?_
                refine lst_store rfl rfl F.ti3 rfl ?_
                refine lst_nil ?_
                refine any_next (by repeat (first | exact List.Sublist.refl _ | exact List.nil_sublist _ | refine List.Sublist.cons_cons _ ?_ | refine List.Sublist.cons _ ?_)) ?_
                refine any_done rfl (by kernel_rfl) ?_
                exact ex_ghost ⟨s14, sh⟩ ⟨hs14, hsh2⟩ (by repeat (first | exact Sub.nil _ | refine Sub.cons rfl ?_)) (by repeat (first | exact Pck.nil _ | exact Pck.refl _ | (apply Pck.cons; focus ((repeat (first | exact Rem.here _ | apply Rem.there)); done)) | refine Pck.skip _ ?_))
        · skip
          rintro ⟨s15, sh⟩ ⟨hs15, hsh2⟩
          (try dsimp only at hs15 hsh2 ⊢)
          refine ex_then ?_
          refine cod_region ?_
          refine lst_field_z rfl rfl F.fi28_1 F.ti26 ?_
          refine lst_load rfl rfl F.one26 ?_
          refine lst_loadN rfl rfl F.agg59 F.ti59 ?_
          refine lst_litN (vs := [(0, _)]) [.int .i64 (v1 : Int), .int .i64 (sc1 : Int), .int .i64 (sh : Int), .int .i64 (er : Int)] rfl rfl Tryd.underlying26 F.ti59 rfl rfl rfl (Lit.agg rfl rfl) ?_
          intro b200
          refine lst_append rfl rfl rfl Tryd.underlying26 F.ti59 rfl rfl rfl (by unfold maxLen; omega) (by omega) ?_
          intro A3 c3
          refine lst_field_z rfl rfl F.fi28_1 F.ti26 ?_
          refine lst_store rfl rfl F.ti26 rfl ?_
          refine lst_nil ?_
          refine ex_block_normal ?_
          refine ex_then ?_
          refine cod_region ?_
          refine lst_move rfl rfl ?_
          refine lst_int (v := .int .i64 (j : Int)) rfl rfl rfl (fun w => bin_sub w (by rw [wrap_i64' _ (by omega) (by omega)] <;> omega)) ?_
          refine lst_assign rfl rfl ?_
          refine lst_nil ?_
          have eR : rs.flatMap Rd.cells ++ [.int .i64 (v1 : Int), .int .i64 (sc1 : Int), .int .i64 (sh : Int), .int .i64 (er : Int)] = (rs ++ [(⟨v1, sc1, sh, er⟩ : Rd)]).flatMap Rd.cells := by rw [List.flatMap_append]; rfl
          (try dsimp only)
          rw [eR]
          refine ex_round' ⟨j, rs ++ [⟨v1, sc1, sh, er⟩], s15, tk2 + 1 + 1 + 1 + 1, A3, c3⟩ ⟨by simp; omega, fun r hr => ?_, hs15, by (try dsimp only); omega⟩ (by (try dsimp only); omega) (by (try simp only []); repeat (first | exact Sub.nil _ | refine Sub.cons rfl ?_)) (by (try simp only [List.length_append, List.length_singleton]); repeat (first | exact Pck.nil _ | exact Pck.refl _ | (apply Pck.cons; focus ((repeat (first | exact Rem.here _ | apply Rem.there)); done)) | refine Pck.skip _ ?_))
          rcases List.mem_append.1 hr with h | h
          · exact hrs r h
          · obtain rfl := List.mem_singleton.1 h
            exact ⟨hv1n, hsc1', by (try dsimp only); omega, hsh2⟩
      · skip
        refine cod_exit ?_
        refine ex_then_exit ?_
        refine ex_then_exit ?_
        refine ex_block_exit ?_
        refine ex_then ?_
        refine cod_seq ?_
        refine cod_region ?_
        refine lst_loadN rfl rfl F.agg28 F.ti28 ?_
        refine lst_move rfl rfl ?_
        refine lst_store rfl rfl F.ti28 rfl ?_
        refine lst_assign rfl rfl ?_
        refine lst_nil ?_
        refine ex_then ?_
        refine cod_ret ?_
        subst hvl
        refine ex_ret rfl (fun a w ha => res_cellN_tmp rfl rfl rfl F.agg28 F.ti28 rfl ha) (fun _ _ ha' => ⟨tk2, st2, vs, rs, ws, some ⟨gv, 0, none⟩, wc, rA, rc, some ⟨b25, 0, none⟩, vs.length, by omega, hst2, hD.melt (by omega) (by omega) hrs, ?_, ?_⟩)
        · rw [hwl]
        · rw [hwl]; exact ha.back (ha'.pck (by repeat (first | exact Pck.nil _ | exact Pck.refl _ | (apply Pck.cons; focus ((repeat (first | exact Rem.here _ | apply Rem.there)); done)) | refine Pck.skip _ ?_)))

end Go.Proofs.YthkbagikmbcphaaDoor.N
