/- Parts of the walks of the laws on fining, those that FiningBoths needs: F45, Leave, RowK, RowK2. -/
import Derived.Test.YtofkhehcnfiopaaDoorSFiningBoths08
import Derived.Test.YtofkhehcnfiopaaDoorProg
import Derived.Conc.LeavingOf
import Derived.Leaving
import Derived.Test.YtofkhehcnfiopaaDoorSFiningBoths00
import Derived.Test.YtofkhehcnfiopaaDoorRows
import Derived.ChangeSame
import Derived.ChangeVars
import Derived.JoinedOf
import Derived.RowKit
import Derived.RowKitTokens
import Derived.LaidLaws
import Derived.LaidHandle
import Derived.Stop.Joined
import Derived.ProofKit
import Derived.SizedLaws
import Derived.OpenShut
import Derived.SevenTiedAt
import Derived.Conc.Holds
import Derived.Test.YtofkhehcnfiopaaDoorSFiningBoths07
import Derived.Deep.Slices
namespace Go.Proofs.YtofkhehcnfiopaaDoor.N
open Go Go.RowKit Go.Proofs
theorem F.ent29 : Enters Tryd.prog 29 := enters_of Tryd.func29 rfl (by kernel_rfl)
theorem F.ent31 : Enters Tryd.prog 31 := enters_of Tryd.func31 rfl (by kernel_rfl)
theorem FiningBoths_c (A0 : Option Addr) (c0 : Nat) (lag : List RA) (x : RA) (mA : Option Addr) (mc : Nat) (melts : List Int) (pass one other : Int) (nA : Option Addr) (nc : Nat) (nums : List Int) (hwf : ∀ y ∈ lag, y.wf) (hxw : x.wf) (hn0 : A0 = none → lag = [] ∧ c0 = 0) (hnm : mA = none → melts = [] ∧ mc = 0) (w : World) (hA : RdL RA.cells 5 w A0 lag) (hM : RdL icell 1 w mA melts) (hN : RdL icell 1 w nA nums) : Calls Tryd.prog 3 #[.slice A0 lag.length c0, .agg [.int .i64 x.needs, .int .i64 x.no, .int .i64 x.takes, .int .i64 x.leaves, .int .i64 x.cost].toArray, .slice mA melts.length mc, .int .i64 pass, .int .i64 one, .int .i64 other, .slice nA nums.length nc] w fun e w' => e = .returned (.bool true) ∧ Grew w w' [] := by
  refine enter (N := 147) [(0, .slice A0 lag.length c0), (1, .agg [.int .i64 x.needs, .int .i64 x.no, .int .i64 x.takes, .int .i64 x.leaves, .int .i64 x.cost].toArray), (2, .slice mA melts.length mc), (3, .int .i64 pass), (4, .int .i64 one), (5, .int .i64 other), (6, .slice nA nums.length nc)] Tryd.func3 rfl Tryd.ntmps3 rfl rfl ?_
  refine cod_seq ?_
  refine cod_region ?_
  refine lst_box rfl rfl ?_
  intro b8
  refine lst_assign rfl rfl ?_
  refine lst_nil ?_
  refine ex_then ?_
  refine cod_seq ?_
  refine cod_seq ?_
  refine cod_region ?_
  refine lst_cut1 8 39 (.bool (decide ((20 : Int) < (lag.length : Int)) || decide ((20 : Int) < (melts.length : Int)))) ?_ ?_
  · skip
    refine lst_move rfl rfl ?_
    refine lst_len rfl rfl Tryd.underlying22 ?_
    refine lst_int rfl rfl rfl bin_gtr ?_
    refine lst_move rfl rfl ?_
    refine lst_split_bool (t := 35) rfl (fun hg35 => ?_) (fun hg35 => ?_)
    · skip
      refine lst_off rfl rfl rfl ?_
      refine lst_off rfl rfl rfl ?_
      refine lst_off rfl rfl rfl ?_
      refine lst_pick_true rfl rfl rfl ?_
      refine lst_nil ?_
      exact ex_cut (.cons (by first | (simp_all [look]; done) | (simp_all [look]; omega)) (by repeat (first | exact Sub.nil _ | refine Sub.cons rfl ?_))) (by repeat (first | exact List.Sublist.refl _ | exact List.nil_sublist _ | refine List.Sublist.cons_cons _ ?_ | refine List.Sublist.cons _ ?_))
    · skip
      refine lst_on rfl rfl ?_
      refine lst_move rfl rfl ?_
      refine lst_on rfl rfl ?_
      refine lst_len rfl rfl Tryd.underlying25 ?_
      refine lst_on rfl rfl ?_
      refine lst_int rfl rfl rfl bin_gtr ?_
      refine lst_pick_false rfl rfl rfl ?_
      refine lst_nil ?_
      exact ex_cut (.cons (by first | (simp_all [look]; done) | (simp_all [look]; omega)) (by repeat (first | exact Sub.nil _ | refine Sub.cons rfl ?_))) (by repeat (first | exact List.Sublist.refl _ | exact List.nil_sublist _ | refine List.Sublist.cons_cons _ ?_ | refine List.Sublist.cons _ ?_))
  refine lst_nil ?_
  refine ex_then ?_
  refine cod_cond_bool rfl (fun hc0 => ?_) (fun hc0 => ?_)
  · skip
    refine cod_seq ?_
    refine cod_region ?_
    refine lst_fn0 (vs := []) rfl rfl F.ent21 (fun a w ha => fined_c w) ?_
    refine lst_assign rfl rfl ?_
    refine lst_nil ?_
    refine ex_then ?_
    refine cod_ret ?_
    refine ex_then_ret ?_
    exact ex_ret rfl (fun a w ha => res_one rfl rfl ha) (fun a w ha => ⟨rfl, ha.grown (List.nil_sublist _)⟩)
  · skip
    rw [Bool.or_eq_false_iff, decide_eq_false_iff_not, decide_eq_false_iff_not] at hc0
    have hlag : lag.length ≤ 20 := by omega
    have hmel : melts.length ≤ 20 := by omega
    refine cod_skip ?_
    refine ex_then ?_
    refine cod_seq ?_
    refine cod_region ?_
    refine lst_move rfl rfl ?_
    refine lst_fn (X := Nat) (vs := [_]) (p := fun _ => True) (val := fun b => .pointer (some ⟨b, 0, none⟩)) (rs := fun b => [.blk b (hatO nA nums.length nc 0 11400714819323198485)]) rfl rfl F.ent22 (fun a w ha => (NewHat_c nA nums.length nc w).mono (fun e w' h => by obtain ⟨b, h1, h2⟩ := h; exact ⟨b, trivial, h1, h2⟩)) ?_
    intro hb _
    dsimp only [List.cons_append, List.nil_append]
    refine lst_assign rfl rfl ?_
    refine lst_nil ?_
    refine ex_then ?_
    refine cod_seq ?_
    refine cod_region ?_
    refine lst_move rfl rfl ?_
    refine lst_loadN rfl rfl F.agg24 F.ti24 ?_
    refine lst_move rfl rfl ?_
    refine lst_call (X := Nat × Nat × Nat × List Ag × List Ag × Option Addr × Option Addr × Nat × Nat) (first := []) (cap := []) (vs := [_, _, _]) (p := fun y => y.1 ≤ 400 ∧ y.2.1 < 18446744073709551616 ∧ y.2.2.2.1.length ≤ 4 ∧ (∀ z ∈ y.2.2.2.1, z.ok) ∧ y.2.2.2.2.1.length ≤ 3 ∧ ∀ z ∈ y.2.2.2.2.1, z.ok) (val := fun y => .slice (some ⟨y.2.2.1, 0, none⟩) 3 3) (rs := fun y => .blk y.2.2.1 (.cells [.slice A0 lag.length c0, .slice y.2.2.2.2.2.1 y.2.2.2.1.length y.2.2.2.2.2.2.2.1, .slice y.2.2.2.2.2.2.1 (y.2.2.2.2.1.length + 1) y.2.2.2.2.2.2.2.2].toArray 22 (0, 0)) :: .row 24 5 y.2.2.2.2.2.1 y.2.2.2.1.length y.2.2.2.2.2.2.2.1 (y.2.2.2.1.flatMap Ag.cells) :: .row 24 5 y.2.2.2.2.2.2.1 (y.2.2.2.2.1.length + 1) y.2.2.2.2.2.2.2.2 (y.2.2.2.2.1.flatMap Ag.cells ++ [.int .i64 x.needs, .int .i64 x.no, .int .i64 x.takes, .int .i64 x.leaves, .int .i64 x.cost]) :: .blk hb (hatO nA nums.length nc y.1 y.2.1) :: []) rfl rfl rfl F.ent23 (fun a w ha => (several_c (C := ⟨Tryd.prog, _, _, _, _⟩) (T := []) (x := x) rfl rfl hN (tk := 0) (st := 11400714819323198485) (by omega) (by omega) (ha.pck (by repeat (first | exact Pck.nil _ | exact Pck.refl _ | (apply Pck.cons; focus ((repeat (first | exact Rem.here _ | apply Rem.there)); done)) | refine Pck.skip _ ?_)))).mono (fun e w' h => by obtain ⟨t', s', b, l1, l2, A1, A2, c1, c2, g1, g2, g3, g4, g5, g6, g7, g8⟩ := h; exact ⟨(t', s', b, l1, l2, A1, A2, c1, c2), ⟨by (try dsimp only); omega, g2, g3, g4, g5, g6⟩, g7, g8⟩)) ?_
    rintro ⟨t1, s1, bS, l1, l2, A1, A2, c1, c2⟩ ⟨ht1, hs1, hl1, ho1, hl2, ho2⟩
    dsimp only at ht1 hs1 hl1 ho1 hl2 ho2 ⊢
    obtain ⟨q1, hq1⟩ : ∃ q, q = l1.map Ag.raw := ⟨_, rfl⟩
    obtain ⟨q2, hq2⟩ : ∃ q, q = l2.map Ag.raw ++ [x] := ⟨_, rfl⟩
    have e1 : l1.length = q1.length := by rw [hq1, List.length_map]
    have e2 : l2.length + 1 = q2.length := by rw [hq2, List.length_append, List.length_map]; rfl
    have e3 : l1.flatMap Ag.cells = q1.flatMap RA.cells := by rw [hq1, raw_cells]
    have e4 : l2.flatMap Ag.cells ++ [.int .i64 x.needs, .int .i64 x.no, .int .i64 x.takes, .int .i64 x.leaves, .int .i64 x.cost] = q2.flatMap RA.cells := by rw [hq2, List.flatMap_append, raw_cells, List.flatMap_singleton]; rfl
    rw [e1, e2, e3, e4]
    have hw1 : ∀ y ∈ q1, y.wf := fun y hy => by rw [hq1] at hy; obtain ⟨z, hz, rfl⟩ := List.mem_map.1 hy; exact raw_wf (ho1 z hz)
    have hw2 : ∀ y ∈ q2, y.wf := fun y hy => by rw [hq2] at hy; exact (List.mem_append.1 hy).elim (fun h => by obtain ⟨z, hz, rfl⟩ := List.mem_map.1 h; exact raw_wf (ho2 z hz)) (fun h => by simp at h; subst h; exact hxw)
    have hp0 : (fun A c L => Rds RA.cells 5 ⟨Tryd.prog, w.heap.size, w, 0, []⟩ [.row 24 5 A1 q1.length c1 (q1.flatMap RA.cells), .row 24 5 A2 q2.length c2 (q2.flatMap RA.cells)] A L ∧ L.length ≤ 20 ∧ (∀ y ∈ L, y.wf) ∧ (A = none → L = [] ∧ c = 0)) A0 c0 lag := ⟨Rds.old hA rfl, hlag, hwf, hn0⟩
    refine lst_assign rfl rfl ?_
    refine lst_nil ?_
    refine ex_then ?_
    refine cod_seq ?_
    refine cod_seq ?_
    refine cod_region ?_
    refine lst_assign rfl rfl ?_
    refine lst_nil ?_
    refine ex_then ?_
    refine cod_block ?_
    refine cod_loop' (G := Nat × Nat × Nat) (fun g => g.1 ≤ 3 ∧ g.2.1 ≤ 400 + 200 * g.1 ∧ g.2.2 < 18446744073709551616) (fun g => 3 - g.1) (fun g => [(2, .slice mA melts.length mc), (3, .int .i64 pass), (4, .int .i64 one), (5, .int .i64 other), (15, .pointer (some ⟨hb, 0, none⟩)), (16, .slice (some ⟨bS, 0, none⟩) 3 3), (17, .int .i64 (g.1 : Int))]) (fun g => .blk hb (hatO nA nums.length nc (g.2.1) (g.2.2)) :: .blk bS (.cells [.slice A0 lag.length c0, .slice A1 q1.length c1, .slice A2 q2.length c2].toArray 22 (0, 0)) :: .row 24 5 A1 q1.length c1 (q1.flatMap RA.cells) :: .row 24 5 A2 q2.length c2 (q2.flatMap RA.cells) :: []) (0, t1, s1) ⟨Nat.zero_le _, ht1, hs1⟩ (by repeat (first | exact Sub.nil _ | refine Sub.cons rfl ?_)) (by repeat (first | exact Pck.nil _ | exact Pck.refl _ | (apply Pck.cons; focus ((repeat (first | exact Rem.here _ | apply Rem.there)); done)) | refine Pck.skip _ ?_)) ?_
    rintro ⟨i, t2, s2⟩ ⟨hi, ht2, hs2⟩
    dsimp only at hi ht2 hs2 ⊢
    refine cod_seq ?_
    refine cod_seq ?_
    refine cod_region ?_
    refine lst_move rfl rfl ?_
    refine lst_move rfl rfl ?_
    refine lst_len rfl rfl Tryd.underlying29 ?_
    refine lst_int rfl rfl rfl bin_lss ?_
    refine lst_nil ?_
    refine ex_then ?_
    refine cod_cond_dec rfl (fun hc1 => ?_) (fun hc1 => ?_)
    · skip
      have hi3 : i < 3 := by omega
      refine cod_know (φ := A1 = none → q1.length = 0 ∧ c1 = 0) (fun a w ha h => row_none ha (InR.mem (A := A1)) h) (fun hn1 => ?_)
      refine cod_know (φ := A2 = none → q2.length = 0 ∧ c2 = 0) (fun a w ha h => row_none ha (InR.mem (A := A2)) h) (fun hn2 => ?_)
      have hp1 : (fun A c L => Rds RA.cells 5 ⟨Tryd.prog, w.heap.size, w, 0, []⟩ [.row 24 5 A1 q1.length c1 (q1.flatMap RA.cells), .row 24 5 A2 q2.length c2 (q2.flatMap RA.cells)] A L ∧ L.length ≤ 20 ∧ (∀ y ∈ L, y.wf) ∧ (A = none → L = [] ∧ c = 0)) A1 c1 q1 := ⟨Rds.row (e := 24) (c := c1) (fun _ => rfl) (by simp), by omega, hw1, fun h => ⟨List.length_eq_zero_iff.1 (hn1 h).1, (hn1 h).2⟩⟩
      have hp2 : (fun A c L => Rds RA.cells 5 ⟨Tryd.prog, w.heap.size, w, 0, []⟩ [.row 24 5 A1 q1.length c1 (q1.flatMap RA.cells), .row 24 5 A2 q2.length c2 (q2.flatMap RA.cells)] A L ∧ L.length ≤ 20 ∧ (∀ y ∈ L, y.wf) ∧ (A = none → L = [] ∧ c = 0)) A2 c2 q2 := ⟨Rds.row (e := 24) (c := c2) (fun _ => rfl) (by simp), by omega, hw2, fun h => ⟨List.length_eq_zero_iff.1 (hn2 h).1, (hn2 h).2⟩⟩
      obtain ⟨A, c, L, hsel, hRd, hL20, hLwf, hLn⟩ := sel_ex (P := (fun A c L => Rds RA.cells 5 ⟨Tryd.prog, w.heap.size, w, 0, []⟩ [.row 24 5 A1 q1.length c1 (q1.flatMap RA.cells), .row 24 5 A2 q2.length c2 (q2.flatMap RA.cells)] A L ∧ L.length ≤ 20 ∧ (∀ y ∈ L, y.wf) ∧ (A = none → L = [] ∧ c = 0))) hp0 hp1 hp2 hi3
      refine cod_skip ?_
      refine ex_then ?_
      refine cod_seq ?_
      refine cod_block ?_
      refine cod_seq ?_
      refine cod_region ?_
      refine lst_move rfl rfl ?_
      refine lst_move rfl rfl ?_
      refine lst_index (j := i) rfl rfl rfl Tryd.underlying29 F.ti22 rfl hi3 ?_
      refine lst_load_at (v := .slice A L.length c) rfl rfl F.one22 (fun a w ha => cell_of_blk (ha.mem_blk (InB.mem (b := bS))) (by rw [Nat.zero_add, Nat.mul_one]; exact hsel)) ?_
      refine lst_fn (X := Option Addr × Nat) (vs := [_]) (p := fun _ => True) (val := fun y => .slice y.1 L.length y.2) (rs := fun y => [.row 24 5 y.1 L.length y.2 (L.flatMap RA.cells)]) rfl rfl F.ent24 (fun a w ha => (DupAgents_c ra_len ra_one A c L (by omega) w hLn (hRd _ _ _ _ _ ha rfl rfl rfl (fun r hr => by simp at hr; rcases hr with h | h <;> subst h <;> simp))).mono (fun e w' h => by obtain ⟨A', c', h1, h2⟩ := h; exact ⟨(A', c'), trivial, h1, h2⟩)) ?_
      rintro ⟨dA, dc⟩ -
      dsimp only [List.cons_append, List.nil_append]
      refine lst_move rfl rfl ?_
      refine lst_move rfl rfl ?_
      refine lst_move rfl rfl ?_
      refine lst_move rfl rfl ?_
      refine lst_assign rfl rfl ?_
      refine lst_assign rfl rfl ?_
      refine lst_assign rfl rfl ?_
      refine lst_assign rfl rfl ?_
      refine lst_assign rfl rfl ?_
      refine lst_nil ?_
      refine ex_then ?_
      refine cod_seq ?_
      refine cod_seq ?_
      refine cod_region ?_
      refine lst_move rfl rfl ?_
      refine lst_int rfl rfl rfl bin_gtr ?_
      refine lst_nil ?_
      refine ex_then ?_
      refine cod_cond_dec rfl (fun hc2 => ?_) (fun hc2 => ?_)
      · skip
        refine cod_region ?_
        refine lst_move rfl rfl ?_
        refine lst_call_pul (X := Nat × Nat) (vs := [_, _]) hb (fun y => hatO nA nums.length nc (t2 + 1) (y.1)) (fun y => y.1 < 18446744073709551616 ∧ y.2 ≤ (15 : Int).toNat) (fun y => .int .i64 (y.2 : Int)) rfl rfl F.ent25 (fun a w ha => (To_c (C := ⟨Tryd.prog, _, _, _, _⟩) rfl rfl hN (tk := t2) (st := s2) (n := 15) (by omega) hs2 (by omega) ha).mono (fun e w' h => by obtain ⟨s', x, h1, h2, h3, h4⟩ := h; exact ⟨(s', x), ⟨h1, h2⟩, h3, h4⟩)) ?_
        rintro ⟨s3, n0⟩ ⟨hs3, hn0⟩
        dsimp only at hs3 hn0 ⊢
        have hln0 : n0 ≤ 15 := by omega
        refine lst_move rfl rfl ?_
        refine lst_call_pul (X := Nat × Nat) (vs := [_, _]) hb (fun y => hatO nA nums.length nc ((t2 + 1) + 1) (y.1)) (fun y => y.1 < 18446744073709551616 ∧ y.2 ≤ (7 : Int).toNat) (fun y => .int .i64 (y.2 : Int)) rfl rfl F.ent25 (fun a w ha => (To_c (C := ⟨Tryd.prog, _, _, _, _⟩) rfl rfl hN (tk := (t2 + 1)) (st := s3) (n := 7) (by omega) hs3 (by omega) ha).mono (fun e w' h => by obtain ⟨s', x, h1, h2, h3, h4⟩ := h; exact ⟨(s', x), ⟨h1, h2⟩, h3, h4⟩)) ?_
        rintro ⟨s4, n1⟩ ⟨hs4, hn1⟩
        dsimp only at hs4 hn1 ⊢
        have hln1 : n1 ≤ 7 := by omega
        refine lst_lit (vs := [(0, _), (1, _)]) rfl rfl Tryd.underlying25 F.ti3 rfl rfl rfl ?_
        intro b68
        refine lst_as_rowN 1 2 rfl (by unfold maxLen; omega) (.head _) ?_
        rw [show ([.int .i64 (n0 : Int), .int .i64 (n1 : Int)] : List Value) = ([(n0 : Int), (n1 : Int)] : List Int).flatMap icell from rfl]
        refine lst_move rfl rfl ?_
        refine lst_call_pul (X := Nat × Nat) (vs := [_, _]) hb (fun y => hatO nA nums.length nc ((t2 + 1 + 1) + 4 + 4) (y.1)) (fun y => y.1 < 18446744073709551616 ∧ y.2 < 64) (fun y => .int .i64 (y.2 : Int)) rfl rfl F.ent26 (fun a w ha => (PassOf_c (C := ⟨Tryd.prog, _, _, _, _⟩) rfl rfl hN (tk := (t2 + 1 + 1)) (st := s4) (few := 4) (by omega) hs4 (by omega) ha).mono (fun e w' h => by obtain ⟨s', x, h1, h2, h3, h4⟩ := h; exact ⟨(s', x), ⟨h1, h2⟩, h3, h4⟩)) ?_
        rintro ⟨s5, z0⟩ ⟨hs5, hz0⟩
        dsimp only at hs5 hz0 ⊢
        refine lst_move rfl rfl ?_
        refine lst_call_pul (X := Nat × Nat) (vs := [_, _]) hb (fun y => hatO nA nums.length nc ((t2 + 1 + 1 + 4 + 4) + 1) (y.1)) (fun y => y.1 < 18446744073709551616 ∧ y.2 ≤ (15 : Int).toNat) (fun y => .int .i64 (y.2 : Int)) rfl rfl F.ent25 (fun a w ha => (To_c (C := ⟨Tryd.prog, _, _, _, _⟩) rfl rfl hN (tk := (t2 + 1 + 1 + 4 + 4)) (st := s5) (n := 15) (by omega) hs5 (by omega) ha).mono (fun e w' h => by obtain ⟨s', x, h1, h2, h3, h4⟩ := h; exact ⟨(s', x), ⟨h1, h2⟩, h3, h4⟩)) ?_
        rintro ⟨s6, n2⟩ ⟨hs6, hn2⟩
        dsimp only at hs6 hn2 ⊢
        have hln2 : n2 ≤ 15 := by omega
        refine lst_move rfl rfl ?_
        refine lst_call_pul (X := Nat × Nat) (vs := [_, _]) hb (fun y => hatO nA nums.length nc ((t2 + 1 + 1 + 4 + 4 + 1) + 1) (y.1)) (fun y => y.1 < 18446744073709551616 ∧ y.2 ≤ (15 : Int).toNat) (fun y => .int .i64 (y.2 : Int)) rfl rfl F.ent25 (fun a w ha => (To_c (C := ⟨Tryd.prog, _, _, _, _⟩) rfl rfl hN (tk := (t2 + 1 + 1 + 4 + 4 + 1)) (st := s6) (n := 15) (by omega) hs6 (by omega) ha).mono (fun e w' h => by obtain ⟨s', x, h1, h2, h3, h4⟩ := h; exact ⟨(s', x), ⟨h1, h2⟩, h3, h4⟩)) ?_
        rintro ⟨s7, n3⟩ ⟨hs7, hn3⟩
        dsimp only at hs7 hn3 ⊢
        have hln3 : n3 ≤ 15 := by omega
        refine lst_assign rfl rfl ?_
        refine lst_assign rfl rfl ?_
        refine lst_assign rfl rfl ?_
        refine lst_assign rfl rfl ?_
        refine lst_nil ?_
        refine ex_then ?_
        refine cod_seq ?_
        refine cod_region ?_
        refine lst_move rfl rfl ?_
        refine lst_fn (X := Option Addr × Nat) (vs := [_]) (p := fun _ => True) (val := fun y => .slice y.1 [(n0 : Int), (n1 : Int)].length y.2) (rs := fun y => [.row 3 1 y.1 [(n0 : Int), (n1 : Int)].length y.2 ([(n0 : Int), (n1 : Int)].flatMap icell)]) rfl rfl F.ent27 (fun a w ha => (dupi_c (some ⟨b68, 0, none⟩) 2 [(n0 : Int), (n1 : Int)] (by first | omega | simp) w (fun h => by cases h) (row_reads ha (cells := icell) (size := 1) (e := 3) (c := 2) (n := 2) (l := [(n0 : Int), (n1 : Int)]) (fun _ => rfl) (InR.mem (A := (some ⟨b68, 0, none⟩))) rfl)).mono (fun e w' h => by obtain ⟨A', c', h1, h2⟩ := h; exact ⟨(A', c'), trivial, h1, h2⟩)) ?_
        rintro ⟨yA, yc⟩ -
        dsimp only [List.cons_append, List.nil_append]
        refine lst_assign rfl rfl ?_
        refine lst_nil ?_
        refine ex_then ?_
        refine cod_seq ?_
        refine cod_region ?_
        refine lst_move rfl rfl ?_
        refine lst_move rfl rfl ?_
        refine lst_move rfl rfl ?_
        refine lst_fn (X := Option Addr × Nat) (vs := [_, _, _]) (p := fun _ => True) (val := fun y => .tuple #[.slice y.1 ((bothR L [(n0 : Int), (n1 : Int)] (z0 : Int)).1).length y.2, .int .i64 (((bothR L [(n0 : Int), (n1 : Int)] (z0 : Int)).2 : Nat) : Int)]) (rs := fun y => [.row 3 1 y.1 ((bothR L [(n0 : Int), (n1 : Int)] (z0 : Int)).1).length y.2 (ints ((bothR L [(n0 : Int), (n1 : Int)] (z0 : Int)).1))]) rfl rfl F.ent28 (fun a w ha => (Both_all dA yA dc yc L [(n0 : Int), (n1 : Int)] (z0 : Int) w (row_reads ha (cells := RA.cells) (size := 5) (e := 24) (c := dc) (n := L.length) (fun _ => rfl) (InR.mem (A := dA)) rfl) (row_reads ha (cells := icell) (size := 1) (e := 3) (c := yc) (n := [(n0 : Int), (n1 : Int)].length) (l := [(n0 : Int), (n1 : Int)]) (fun _ => rfl) (InR.mem (A := yA)) rfl)).mono (fun e w' h => by obtain ⟨A', c', h1, h2⟩ := h; exact ⟨(A', c'), trivial, h1, h2⟩)) ?_
        rintro ⟨uA1, uc1⟩ -
        dsimp only [List.cons_append, List.nil_append]
        refine lst_move rfl rfl ?_
        refine lst_extract rfl rfl rfl ?_
        refine lst_extract rfl rfl rfl ?_
        refine lst_assign rfl rfl ?_
        refine lst_assign rfl rfl ?_
        refine lst_nil ?_
        refine ex_then ?_
        refine cod_seq ?_
        refine cod_region ?_
        refine lst_move rfl rfl ?_
        refine lst_move rfl rfl ?_
        refine lst_index (j := i) rfl rfl rfl Tryd.underlying29 F.ti22 rfl hi3 ?_
        refine lst_load_at (v := .slice A L.length c) rfl rfl F.one22 (fun a w ha => cell_of_blk (ha.mem_blk (InB.mem (b := bS))) (by rw [Nat.zero_add, Nat.mul_one]; exact hsel)) ?_
        refine lst_move rfl rfl ?_
        refine lst_move rfl rfl ?_
        refine lst_fn (X := Option Addr × Nat) (vs := [_, _, _]) (p := fun _ => True) (val := fun y => .tuple #[.slice y.1 ((bothR L [(n0 : Int), (n1 : Int)] (z0 : Int)).1).length y.2, .int .i64 (((bothR L [(n0 : Int), (n1 : Int)] (z0 : Int)).2 : Nat) : Int)]) (rs := fun y => [.row 3 1 y.1 ((bothR L [(n0 : Int), (n1 : Int)] (z0 : Int)).1).length y.2 (ints ((bothR L [(n0 : Int), (n1 : Int)] (z0 : Int)).1))]) rfl rfl F.ent29 (fun a w ha => (rBoth_all A (some ⟨b68, 0, none⟩) c 2 L [(n0 : Int), (n1 : Int)] (z0 : Int) w (hRd _ _ _ _ _ ha rfl rfl rfl (fun r hr => by simp at hr; rcases hr with h | h <;> subst h <;> simp)) (row_reads ha (cells := icell) (size := 1) (e := 3) (c := 2) (n := 2) (l := [(n0 : Int), (n1 : Int)]) (fun _ => rfl) (InR.mem (A := (some ⟨b68, 0, none⟩))) rfl)).mono (fun e w' h => by obtain ⟨A', c', h1, h2⟩ := h; exact ⟨(A', c'), trivial, h1, h2⟩)) ?_
        rintro ⟨uA2, uc2⟩ -
        dsimp only [List.cons_append, List.nil_append]
        refine lst_move rfl rfl ?_
        refine lst_extract rfl rfl rfl ?_
        refine lst_extract rfl rfl rfl ?_
        refine lst_assign rfl rfl ?_
        refine lst_assign rfl rfl ?_
        refine lst_nil ?_
        refine ex_then ?_
        refine cod_seq ?_
        refine cod_region ?_
        refine lst_move rfl rfl ?_
        refine lst_move rfl rfl ?_
        refine lst_move rfl rfl ?_
        refine lst_fn (X := Option Addr × Nat) (vs := [_, _, _]) (p := fun _ => True) (val := fun y => .tuple #[.slice y.1 ((twoR tellA L (n2 : Int) (n3 : Int)).1).length y.2, .int .i64 (((twoR tellA L (n2 : Int) (n3 : Int)).2 : Nat) : Int)]) (rs := fun y => [.row 3 1 y.1 ((twoR tellA L (n2 : Int) (n3 : Int)).1).length y.2 (ints ((twoR tellA L (n2 : Int) (n3 : Int)).1))]) rfl rfl F.ent30 (fun a w ha => (Tells_all dA dc L (n2 : Int) (n3 : Int) w (row_reads ha (cells := RA.cells) (size := 5) (e := 24) (c := dc) (n := L.length) (fun _ => rfl) (InR.mem (A := dA)) rfl)).mono (fun e w' h => by obtain ⟨A', c', h1, h2⟩ := h; exact ⟨(A', c'), trivial, h1, h2⟩)) ?_
        rintro ⟨vA1, vc1⟩ -
        dsimp only [List.cons_append, List.nil_append]
        refine lst_move rfl rfl ?_
        refine lst_extract rfl rfl rfl ?_
        refine lst_extract rfl rfl rfl ?_
        refine lst_assign rfl rfl ?_
        refine lst_assign rfl rfl ?_
        refine lst_nil ?_
        refine ex_then ?_
        refine cod_seq ?_
        refine cod_region ?_
        refine lst_move rfl rfl ?_
        refine lst_move rfl rfl ?_
        refine lst_index (j := i) rfl rfl rfl Tryd.underlying29 F.ti22 rfl hi3 ?_
        refine lst_load_at (v := .slice A L.length c) rfl rfl F.one22 (fun a w ha => cell_of_blk (ha.mem_blk (InB.mem (b := bS))) (by rw [Nat.zero_add, Nat.mul_one]; exact hsel)) ?_
        refine lst_move rfl rfl ?_
        refine lst_move rfl rfl ?_
        refine lst_fn (X := Option Addr × Nat) (vs := [_, _, _]) (p := fun _ => True) (val := fun y => .tuple #[.slice y.1 ((twoR tellA L (n2 : Int) (n3 : Int)).1).length y.2, .int .i64 (((twoR tellA L (n2 : Int) (n3 : Int)).2 : Nat) : Int)]) (rs := fun y => [.row 3 1 y.1 ((twoR tellA L (n2 : Int) (n3 : Int)).1).length y.2 (ints ((twoR tellA L (n2 : Int) (n3 : Int)).1))]) rfl rfl F.ent31 (fun a w ha => (rTells_all A c L (n2 : Int) (n3 : Int) w (hRd _ _ _ _ _ ha rfl rfl rfl (fun r hr => by simp at hr; rcases hr with h | h <;> subst h <;> simp))).mono (fun e w' h => by obtain ⟨A', c', h1, h2⟩ := h; exact ⟨(A', c'), trivial, h1, h2⟩)) ?_
        rintro ⟨vA2, vc2⟩ -
        dsimp only [List.cons_append, List.nil_append]
        refine lst_move rfl rfl ?_
        refine lst_extract rfl rfl rfl ?_
        refine lst_extract rfl rfl rfl ?_
        refine lst_assign rfl rfl ?_
        refine lst_assign rfl rfl ?_
        refine lst_nil ?_
        refine ex_then ?_
        refine cod_seq ?_
        refine cod_region ?_
        refine lst_move rfl rfl ?_
        refine lst_move rfl rfl ?_
        refine lst_int (v := .bool false) rfl rfl rfl (fun w => by rw [bin_neq]; simp) ?_
        refine lst_move rfl rfl ?_
        refine lst_on rfl rfl ?_
        refine lst_move rfl rfl ?_
        refine lst_on rfl rfl ?_
        refine lst_move rfl rfl ?_
        refine lst_on rfl rfl ?_
        refine lst_int (v := .bool false) rfl rfl rfl (fun w => by rw [bin_neq]; simp) ?_
        refine lst_pick_false rfl rfl rfl ?_
        refine lst_move rfl rfl ?_
        refine lst_on rfl rfl ?_
        refine lst_move rfl rfl ?_
        refine lst_on rfl rfl ?_
        refine lst_move rfl rfl ?_
        refine lst_on rfl rfl ?_
        refine lst_fn0 (v := .bool true) (vs := [_, _]) rfl rfl F.ent32 (fun a w ha => by
          have h := eqInts_c uA1 uA2 uc1 uc2 (castL ((bothR L [(n0 : Int), (n1 : Int)] (z0 : Int)).1)) (castL ((bothR L [(n0 : Int), (n1 : Int)] (z0 : Int)).1)) (by rw [castL_len]; exact (Nat.le_trans (bothR_le L [(n0 : Int), (n1 : Int)] (z0 : Int)) (by omega))) w (RdL.cast (row_reads ha (cells := ncell) (size := 1) (e := 3) (c := uc1) (n := ((bothR L [(n0 : Int), (n1 : Int)] (z0 : Int)).1).length) (fun _ => rfl) (by rw [← ints_flat]; exact InR.mem (A := uA1)) rfl)) (RdL.cast (row_reads ha (cells := ncell) (size := 1) (e := 3) (c := uc2) (n := ((bothR L [(n0 : Int), (n1 : Int)] (z0 : Int)).1).length) (fun _ => rfl) (by rw [← ints_flat]; exact InR.mem (A := uA2)) rfl))
          rw [castL_len] at h
          exact h.mono (fun e w' h => ⟨h.1.trans (by simp), h.2⟩)) ?_
        refine lst_on rfl rfl ?_
        refine lst_not rfl rfl ?_
        refine lst_pick_false rfl rfl rfl ?_
        refine lst_move rfl rfl ?_
        refine lst_on rfl rfl ?_
        refine lst_move rfl rfl ?_
        refine lst_on rfl rfl ?_
        refine lst_move rfl rfl ?_
        refine lst_on rfl rfl ?_
        refine lst_fn0 (v := .bool true) (vs := [_, _]) rfl rfl F.ent32 (fun a w ha => by
          have h := eqInts_c vA1 vA2 vc1 vc2 (castL ((twoR tellA L (n2 : Int) (n3 : Int)).1)) (castL ((twoR tellA L (n2 : Int) (n3 : Int)).1)) (by rw [castL_len]; exact (Nat.le_trans (twoR_le5 tellA_le L (n2 : Int) (n3 : Int)) (by omega))) w (RdL.cast (row_reads ha (cells := ncell) (size := 1) (e := 3) (c := vc1) (n := ((twoR tellA L (n2 : Int) (n3 : Int)).1).length) (fun _ => rfl) (by rw [← ints_flat]; exact InR.mem (A := vA1)) rfl)) (RdL.cast (row_reads ha (cells := ncell) (size := 1) (e := 3) (c := vc2) (n := ((twoR tellA L (n2 : Int) (n3 : Int)).1).length) (fun _ => rfl) (by rw [← ints_flat]; exact InR.mem (A := vA2)) rfl))
          rw [castL_len] at h
          exact h.mono (fun e w' h => ⟨h.1.trans (by simp), h.2⟩)) ?_
        refine lst_on rfl rfl ?_
        refine lst_not rfl rfl ?_
        refine lst_pick_false rfl rfl rfl ?_
        refine lst_move rfl rfl ?_
        refine lst_on rfl rfl ?_
        refine lst_move rfl rfl ?_
        refine lst_on rfl rfl ?_
        refine lst_move rfl rfl ?_
        refine lst_on rfl rfl ?_
        refine lst_move rfl rfl ?_
        refine lst_on rfl rfl ?_
        refine lst_index (j := i) rfl rfl rfl Tryd.underlying29 F.ti22 rfl hi3 ?_
        refine lst_on rfl rfl ?_
        refine lst_load_at (v := .slice A L.length c) rfl rfl F.one22 (fun a w ha => cell_of_blk (ha.mem_blk (InB.mem (b := bS))) (by rw [Nat.zero_add, Nat.mul_one]; exact hsel)) ?_
        refine lst_on rfl rfl ?_
        refine lst_fn0 (v := .bool true) (vs := [_, _]) rfl rfl F.ent33 (fun a w ha => EqAgents_c dA A dc c L (by omega) hLwf w (row_reads ha (cells := RA.cells) (size := 5) (e := 24) (c := dc) (n := L.length) (fun _ => rfl) (InR.mem (A := dA)) rfl) (hRd _ _ _ _ _ ha rfl rfl rfl (fun r hr => by simp at hr; rcases hr with h | h <;> subst h <;> simp))) ?_
        refine lst_on rfl rfl ?_
        refine lst_not rfl rfl ?_
        refine lst_pick_false rfl rfl rfl ?_
        refine lst_move rfl rfl ?_
        refine lst_on rfl rfl ?_
        refine lst_move rfl rfl ?_
        refine lst_on rfl rfl ?_
        refine lst_move rfl rfl ?_
        refine lst_on rfl rfl ?_
        refine lst_fn0 (v := .bool true) (vs := [_, _]) rfl rfl F.ent32 (fun a w ha => (eqInts_c yA (some ⟨b68, 0, none⟩) yc 2 [(n0 : Int), (n1 : Int)] [(n0 : Int), (n1 : Int)] (by first | omega | simp) w (row_reads ha (cells := icell) (size := 1) (e := 3) (c := yc) (n := [(n0 : Int), (n1 : Int)].length) (l := [(n0 : Int), (n1 : Int)]) (fun _ => rfl) (InR.mem (A := yA)) rfl) (row_reads ha (cells := icell) (size := 1) (e := 3) (c := 2) (n := 2) (l := [(n0 : Int), (n1 : Int)]) (fun _ => rfl) (InR.mem (A := (some ⟨b68, 0, none⟩))) rfl)).mono (fun e w' h => ⟨h.1.trans (by simp), h.2⟩)) ?_
        refine lst_on rfl rfl ?_
        refine lst_not rfl rfl ?_
        refine lst_pick_false rfl rfl rfl ?_
        refine lst_nil ?_
        refine ex_then ?_
        refine cod_cond_false rfl ?_
        refine cod_skip ?_
        refine ex_block_normal ?_
        refine ex_then ?_
        refine cod_region ?_
        refine lst_move rfl rfl ?_
        refine lst_int rfl rfl rfl (fun w => bin_add w (wrap_i64' _ (by omega) (by omega))) ?_
        refine lst_assign rfl rfl ?_
        refine lst_nil ?_
        refine ex_round' (i + 1, t2 + 1 + 1 + 4 + 4 + 1 + 1, s7) ⟨by (try dsimp only); omega, by (try dsimp only); omega, hs7⟩ (by (try dsimp only); omega) (by repeat (first | exact Sub.nil _ | refine Sub.cons rfl ?_)) (by repeat (first | exact Pck.nil _ | exact Pck.refl _ | (apply Pck.cons; focus ((repeat (first | exact Rem.here _ | apply Rem.there)); done)) | refine Pck.skip _ ?_))
      · skip
        refine cod_skip ?_
        refine ex_then ?_
        refine cod_seq ?_
        refine cod_region ?_
        refine lst_move rfl rfl ?_
        refine lst_fn (X := Option Addr × Nat) (vs := [_]) (p := fun _ => True) (val := fun y => .slice y.1 melts.length y.2) (rs := fun y => [.row 3 1 y.1 melts.length y.2 (melts.flatMap icell)]) rfl rfl F.ent27 (fun a w ha => (dupi_c mA mc melts (by first | omega | simp) w hnm (hM.later ha.below)).mono (fun e w' h => by obtain ⟨A', c', h1, h2⟩ := h; exact ⟨(A', c'), trivial, h1, h2⟩)) ?_
        rintro ⟨yA, yc⟩ -
        dsimp only [List.cons_append, List.nil_append]
        refine lst_assign rfl rfl ?_
        refine lst_nil ?_
        refine ex_then ?_
        refine cod_seq ?_
        refine cod_region ?_
        refine lst_move rfl rfl ?_
        refine lst_move rfl rfl ?_
        refine lst_move rfl rfl ?_
        refine lst_fn (X := Option Addr × Nat) (vs := [_, _, _]) (p := fun _ => True) (val := fun y => .tuple #[.slice y.1 ((bothR L melts pass).1).length y.2, .int .i64 (((bothR L melts pass).2 : Nat) : Int)]) (rs := fun y => [.row 3 1 y.1 ((bothR L melts pass).1).length y.2 (ints ((bothR L melts pass).1))]) rfl rfl F.ent28 (fun a w ha => (Both_all dA yA dc yc L melts pass w (row_reads ha (cells := RA.cells) (size := 5) (e := 24) (c := dc) (n := L.length) (fun _ => rfl) (InR.mem (A := dA)) rfl) (row_reads ha (cells := icell) (size := 1) (e := 3) (c := yc) (n := melts.length) (l := melts) (fun _ => rfl) (InR.mem (A := yA)) rfl)).mono (fun e w' h => by obtain ⟨A', c', h1, h2⟩ := h; exact ⟨(A', c'), trivial, h1, h2⟩)) ?_
        rintro ⟨uA1, uc1⟩ -
        dsimp only [List.cons_append, List.nil_append]
        refine lst_move rfl rfl ?_
        refine lst_extract rfl rfl rfl ?_
        refine lst_extract rfl rfl rfl ?_
        refine lst_assign rfl rfl ?_
        refine lst_assign rfl rfl ?_
        refine lst_nil ?_
        refine ex_then ?_
        refine cod_seq ?_
        refine cod_region ?_
        refine lst_move rfl rfl ?_
        refine lst_move rfl rfl ?_
        refine lst_index (j := i) rfl rfl rfl Tryd.underlying29 F.ti22 rfl hi3 ?_
        refine lst_load_at (v := .slice A L.length c) rfl rfl F.one22 (fun a w ha => cell_of_blk (ha.mem_blk (InB.mem (b := bS))) (by rw [Nat.zero_add, Nat.mul_one]; exact hsel)) ?_
        refine lst_move rfl rfl ?_
        refine lst_move rfl rfl ?_
        refine lst_fn (X := Option Addr × Nat) (vs := [_, _, _]) (p := fun _ => True) (val := fun y => .tuple #[.slice y.1 ((bothR L melts pass).1).length y.2, .int .i64 (((bothR L melts pass).2 : Nat) : Int)]) (rs := fun y => [.row 3 1 y.1 ((bothR L melts pass).1).length y.2 (ints ((bothR L melts pass).1))]) rfl rfl F.ent29 (fun a w ha => (rBoth_all A mA c mc L melts pass w (hRd _ _ _ _ _ ha rfl rfl rfl (fun r hr => by simp at hr; rcases hr with h | h <;> subst h <;> simp)) (hM.later ha.below)).mono (fun e w' h => by obtain ⟨A', c', h1, h2⟩ := h; exact ⟨(A', c'), trivial, h1, h2⟩)) ?_
        rintro ⟨uA2, uc2⟩ -
        dsimp only [List.cons_append, List.nil_append]
        refine lst_move rfl rfl ?_
        refine lst_extract rfl rfl rfl ?_
        refine lst_extract rfl rfl rfl ?_
        refine lst_assign rfl rfl ?_
        refine lst_assign rfl rfl ?_
        refine lst_nil ?_
        refine ex_then ?_
        refine cod_seq ?_
        refine cod_region ?_
        refine lst_move rfl rfl ?_
        refine lst_move rfl rfl ?_
        refine lst_move rfl rfl ?_
        refine lst_fn (X := Option Addr × Nat) (vs := [_, _, _]) (p := fun _ => True) (val := fun y => .tuple #[.slice y.1 ((twoR tellA L one other).1).length y.2, .int .i64 (((twoR tellA L one other).2 : Nat) : Int)]) (rs := fun y => [.row 3 1 y.1 ((twoR tellA L one other).1).length y.2 (ints ((twoR tellA L one other).1))]) rfl rfl F.ent30 (fun a w ha => (Tells_all dA dc L one other w (row_reads ha (cells := RA.cells) (size := 5) (e := 24) (c := dc) (n := L.length) (fun _ => rfl) (InR.mem (A := dA)) rfl)).mono (fun e w' h => by obtain ⟨A', c', h1, h2⟩ := h; exact ⟨(A', c'), trivial, h1, h2⟩)) ?_
        rintro ⟨vA1, vc1⟩ -
        dsimp only [List.cons_append, List.nil_append]
        refine lst_move rfl rfl ?_
        refine lst_extract rfl rfl rfl ?_
        refine lst_extract rfl rfl rfl ?_
        refine lst_assign rfl rfl ?_
        refine lst_assign rfl rfl ?_
        refine lst_nil ?_
        refine ex_then ?_
        refine cod_seq ?_
        refine cod_region ?_
        refine lst_move rfl rfl ?_
        refine lst_move rfl rfl ?_
        refine lst_index (j := i) rfl rfl rfl Tryd.underlying29 F.ti22 rfl hi3 ?_
        refine lst_load_at (v := .slice A L.length c) rfl rfl F.one22 (fun a w ha => cell_of_blk (ha.mem_blk (InB.mem (b := bS))) (by rw [Nat.zero_add, Nat.mul_one]; exact hsel)) ?_
        refine lst_move rfl rfl ?_
        refine lst_move rfl rfl ?_
        refine lst_fn (X := Option Addr × Nat) (vs := [_, _, _]) (p := fun _ => True) (val := fun y => .tuple #[.slice y.1 ((twoR tellA L one other).1).length y.2, .int .i64 (((twoR tellA L one other).2 : Nat) : Int)]) (rs := fun y => [.row 3 1 y.1 ((twoR tellA L one other).1).length y.2 (ints ((twoR tellA L one other).1))]) rfl rfl F.ent31 (fun a w ha => (rTells_all A c L one other w (hRd _ _ _ _ _ ha rfl rfl rfl (fun r hr => by simp at hr; rcases hr with h | h <;> subst h <;> simp))).mono (fun e w' h => by obtain ⟨A', c', h1, h2⟩ := h; exact ⟨(A', c'), trivial, h1, h2⟩)) ?_
        rintro ⟨vA2, vc2⟩ -
        dsimp only [List.cons_append, List.nil_append]
        refine lst_move rfl rfl ?_
        refine lst_extract rfl rfl rfl ?_
        refine lst_extract rfl rfl rfl ?_
        refine lst_assign rfl rfl ?_
        refine lst_assign rfl rfl ?_
        refine lst_nil ?_
        refine ex_then ?_
        refine cod_seq ?_
        refine cod_region ?_
        refine lst_move rfl rfl ?_
        refine lst_move rfl rfl ?_
        refine lst_int (v := .bool false) rfl rfl rfl (fun w => by rw [bin_neq]; simp) ?_
        refine lst_move rfl rfl ?_
        refine lst_on rfl rfl ?_
        refine lst_move rfl rfl ?_
        refine lst_on rfl rfl ?_
        refine lst_move rfl rfl ?_
        refine lst_on rfl rfl ?_
        refine lst_int (v := .bool false) rfl rfl rfl (fun w => by rw [bin_neq]; simp) ?_
        refine lst_pick_false rfl rfl rfl ?_
        refine lst_move rfl rfl ?_
        refine lst_on rfl rfl ?_
        refine lst_move rfl rfl ?_
        refine lst_on rfl rfl ?_
        refine lst_move rfl rfl ?_
        refine lst_on rfl rfl ?_
        refine lst_fn0 (v := .bool true) (vs := [_, _]) rfl rfl F.ent32 (fun a w ha => by
          have h := eqInts_c uA1 uA2 uc1 uc2 (castL ((bothR L melts pass).1)) (castL ((bothR L melts pass).1)) (by rw [castL_len]; exact (Nat.le_trans (bothR_le L melts pass) (by omega))) w (RdL.cast (row_reads ha (cells := ncell) (size := 1) (e := 3) (c := uc1) (n := ((bothR L melts pass).1).length) (fun _ => rfl) (by rw [← ints_flat]; exact InR.mem (A := uA1)) rfl)) (RdL.cast (row_reads ha (cells := ncell) (size := 1) (e := 3) (c := uc2) (n := ((bothR L melts pass).1).length) (fun _ => rfl) (by rw [← ints_flat]; exact InR.mem (A := uA2)) rfl))
          rw [castL_len] at h
          exact h.mono (fun e w' h => ⟨h.1.trans (by simp), h.2⟩)) ?_
        refine lst_on rfl rfl ?_
        refine lst_not rfl rfl ?_
        refine lst_pick_false rfl rfl rfl ?_
        refine lst_move rfl rfl ?_
        refine lst_on rfl rfl ?_
        refine lst_move rfl rfl ?_
        refine lst_on rfl rfl ?_
        refine lst_move rfl rfl ?_
        refine lst_on rfl rfl ?_
        refine lst_fn0 (v := .bool true) (vs := [_, _]) rfl rfl F.ent32 (fun a w ha => by
          have h := eqInts_c vA1 vA2 vc1 vc2 (castL ((twoR tellA L one other).1)) (castL ((twoR tellA L one other).1)) (by rw [castL_len]; exact (Nat.le_trans (twoR_le5 tellA_le L one other) (by omega))) w (RdL.cast (row_reads ha (cells := ncell) (size := 1) (e := 3) (c := vc1) (n := ((twoR tellA L one other).1).length) (fun _ => rfl) (by rw [← ints_flat]; exact InR.mem (A := vA1)) rfl)) (RdL.cast (row_reads ha (cells := ncell) (size := 1) (e := 3) (c := vc2) (n := ((twoR tellA L one other).1).length) (fun _ => rfl) (by rw [← ints_flat]; exact InR.mem (A := vA2)) rfl))
          rw [castL_len] at h
          exact h.mono (fun e w' h => ⟨h.1.trans (by simp), h.2⟩)) ?_
        refine lst_on rfl rfl ?_
        refine lst_not rfl rfl ?_
        refine lst_pick_false rfl rfl rfl ?_
        refine lst_move rfl rfl ?_
        refine lst_on rfl rfl ?_
        refine lst_move rfl rfl ?_
        refine lst_on rfl rfl ?_
        refine lst_move rfl rfl ?_
        refine lst_on rfl rfl ?_
        refine lst_move rfl rfl ?_
        refine lst_on rfl rfl ?_
        refine lst_index (j := i) rfl rfl rfl Tryd.underlying29 F.ti22 rfl hi3 ?_
        refine lst_on rfl rfl ?_
        refine lst_load_at (v := .slice A L.length c) rfl rfl F.one22 (fun a w ha => cell_of_blk (ha.mem_blk (InB.mem (b := bS))) (by rw [Nat.zero_add, Nat.mul_one]; exact hsel)) ?_
        refine lst_on rfl rfl ?_
        refine lst_fn0 (v := .bool true) (vs := [_, _]) rfl rfl F.ent33 (fun a w ha => EqAgents_c dA A dc c L (by omega) hLwf w (row_reads ha (cells := RA.cells) (size := 5) (e := 24) (c := dc) (n := L.length) (fun _ => rfl) (InR.mem (A := dA)) rfl) (hRd _ _ _ _ _ ha rfl rfl rfl (fun r hr => by simp at hr; rcases hr with h | h <;> subst h <;> simp))) ?_
        refine lst_on rfl rfl ?_
        refine lst_not rfl rfl ?_
        refine lst_pick_false rfl rfl rfl ?_
        refine lst_move rfl rfl ?_
        refine lst_on rfl rfl ?_
        refine lst_move rfl rfl ?_
        refine lst_on rfl rfl ?_
        refine lst_move rfl rfl ?_
        refine lst_on rfl rfl ?_
        refine lst_fn0 (v := .bool true) (vs := [_, _]) rfl rfl F.ent32 (fun a w ha => (eqInts_c yA mA yc mc melts melts (by first | omega | simp) w (row_reads ha (cells := icell) (size := 1) (e := 3) (c := yc) (n := melts.length) (l := melts) (fun _ => rfl) (InR.mem (A := yA)) rfl) (hM.later ha.below)).mono (fun e w' h => ⟨h.1.trans (by simp), h.2⟩)) ?_
        refine lst_on rfl rfl ?_
        refine lst_not rfl rfl ?_
        refine lst_pick_false rfl rfl rfl ?_
        refine lst_nil ?_
        refine ex_then ?_
        refine cod_cond_false rfl ?_
        refine cod_skip ?_
        refine ex_block_normal ?_
        refine ex_then ?_
        refine cod_region ?_
        refine lst_move rfl rfl ?_
        refine lst_int rfl rfl rfl (fun w => bin_add w (wrap_i64' _ (by omega) (by omega))) ?_
        refine lst_assign rfl rfl ?_
        refine lst_nil ?_
        refine ex_round' (i + 1, t2, s2) ⟨by (try dsimp only); omega, by (try dsimp only); omega, hs2⟩ (by (try dsimp only); omega) (by repeat (first | exact Sub.nil _ | refine Sub.cons rfl ?_)) (by repeat (first | exact Pck.nil _ | exact Pck.refl _ | (apply Pck.cons; focus ((repeat (first | exact Rem.here _ | apply Rem.there)); done)) | refine Pck.skip _ ?_))
    · skip
      refine cod_exit ?_
      refine ex_then_exit ?_
      refine ex_then_exit ?_
      refine ex_block_exit ?_
      refine ex_then ?_
      refine cod_seq ?_
      refine cod_region ?_
      refine lst_fn0 (vs := []) rfl rfl F.ent21 (fun a w ha => fined_c w) ?_
      refine lst_assign rfl rfl ?_
      refine lst_nil ?_
      refine ex_then ?_
      refine cod_ret ?_
      exact ex_ret rfl (fun a w ha => res_one rfl rfl ha) (fun a w ha => ⟨rfl, ha.grown (List.nil_sublist _)⟩)

end Go.Proofs.YtofkhehcnfiopaaDoor.N
namespace Go.Proofs.YtofkhehcnfiopaaDoor.N
open Go
theorem returnsInLeavingWide_of_calls {a : Assume} {C : Checked} {os : Os} {f : FuncId} {r : Reach} {Pre : World → Array Value → Prop} {Post : World → Array Value → Value → World → Prop}
    (own : ownKnob C.prog.godebug = none) (started : os.Started) (noInit : C.prog.inits.idxOf? f = none)
    (witness : ∃ (w : World) (tape : Tape) (i : Input), w.os = os ∧ (w.forCall tape i).Shaped C.prog ∧ i.vars = [] ∧ Input.okWide C.prog (w.forCall tape i) r w.heap.size f i ∧ Pre (w.forCall tape i).memory i.args ∧
      a.holds C.prog (lone (Frame.enter C.prog f i.args .normal) [] (w.forCall tape i)))
    (contract : ∀ (w : World) (tape : Tape) (i : Input), w.os = os → (w.forCall tape i).ShapedOpen C.prog → i.vars = [] → Input.okWide C.prog (w.forCall tape i) r w.heap.size f i → Pre (w.forCall tape i).memory i.args →
      a.holds C.prog (lone (Frame.enter C.prog f i.args .normal) [] (w.forCall tape i)) →
      Calls C.prog f i.args (w.forCall tape i) fun
        | .returned v, w' => Post (w.forCall tape i).blind i.args v w'.blind
        | _, _ => False) :
    ReturnsInLeavingWide a C os f r Pre Post := fun enter => by
  obtain ⟨w0, t0, i0, a1, a2, a3, a4, a5, a6⟩ := witness
  refine ⟨enter, own, started, ⟨w0, t0, i0, a1, a2, a3, a4, a5, a6, trivial⟩, fun w tape i h => ?_⟩
  obtain ⟨n, v, w', fr, hn, hend, hp⟩ := (contract w tape i h.1 h.2.1 h.2.2.1 h.2.2.2.1 h.2.2.2.2.1 h.2.2.2.2.2.1).done_lone noInit
  have hal := alone_of_lone (w' := w') hn
  refine ⟨n + 1, v, w', hend, (clean_of_lone hn).2, roomy_placeholder .., hp, ⟨n, _, hn, step_of_runs hn hend, ⟨hal.2.1, onlyLeaving_of_quiet hal.1, hal.2.2⟩⟩, fun _ _ _ => trivial⟩
theorem returnsInLeavingWide_of_change_and {H : Type} {enc : TypeId × Value → H} {a : Assume} {C : Checked} {os : Os} {f : FuncId} {fn : Func} {s : ChangeSpec} {conds : List PathCond} {apart fresh handsOn again : Bool} {X : World → Array Value → Prop}
    (hX : ∀ (w w' : World) (args : Array Value), w.heap = w'.heap → X w args → X w' args)
    (own : ownKnob C.prog.godebug = none) (started : os.Started) (noInit : C.prog.inits.idxOf? f = none) (hfn : C.prog.funcs[f]? = some fn)
    (witness : ∃ (w : World) (tape : Tape) (i : Input), w.os = os ∧ (w.forCall tape i).Shaped C.prog ∧ i.vars = [] ∧ Input.okWide C.prog (w.forCall tape i) .any w.heap.size f i ∧
      ((s.pre enc C.prog fn conds apart (w.forCall tape i).memory i.args ∧ X (w.forCall tape i).memory i.args) ∧ sizedMet enc C.prog fn (OpenSpec.ofChange s) apart (w.forCall tape i).memory i.args) ∧ a.holds C.prog (lone (Frame.enter C.prog f i.args .normal) [] (w.forCall tape i)))
    (contract : ∀ (W : World) (base : Nat) (args : Array Value) (ds gs : List (DataW H)) (before : List MemPlace),
      (∀ (j : Nat) t v, fn.params[j]? = some t → args[j]? = some v → Value.okWide C.prog W .any base t v) →
      DataW.Whole enc C.prog fn.params.toList s.vars apart W args.toList ds gs before →
      conds.all (PathCond.test C.prog ⟨fn.params.toList, ds, s.plain.varTypes C.prog, gs⟩) = true →
      (DataW.weightsEach C.prog (fn.params.toList ++ s.plain.varTypes C.prog) (ds ++ gs)).all (· ≤ reachBytes) = true → X W args →
      a.holds C.prog (lone (Frame.enter C.prog f args .normal) [] W) →
      Calls C.prog f args W fun e W' => ∃ v, e = .returned v ∧ s.post enc C.prog fn apart fresh handsOn again W args v W') :
    ReturnsInLeavingWide a C os f .any (fun w args => (s.pre enc C.prog fn conds apart w args ∧ X w args) ∧ sizedMet enc C.prog fn (OpenSpec.ofChange s) apart w args) (s.post enc C.prog fn apart fresh handsOn again) := by
  refine returnsInLeavingWide_of_calls own started noInit witness ?_
  intro w tape i _ _ _ hok hpre hholds
  obtain ⟨_, _, _, fn', hfn', _, _, _, _, hval⟩ := hok
  have e : fn' = fn := Option.some.inj (hfn'.symm.trans hfn)
  subst e
  obtain ⟨⟨⟨ds, gs, before, hw, hc⟩, hx⟩, hz⟩ := hpre
  have hw' := DataW.Whole.of_heap (w' := w.forCall tape i) (by rfl) hw
  refine (contract (w.forCall tape i) w.heap.size i.args ds gs before hval hw' hc (hz.weights hw) (hX _ _ _ (by rfl) hx) hholds).mono fun e W' ⟨v, he, hp⟩ => ?_
  subst he
  exact ChangeSpec.post_blind hp
end Go.Proofs.YtofkhehcnfiopaaDoor.N
/- What rows of laws about numbers share: the laid world, and the law from its lone call. -/
namespace Go.Proofs.YtofkhehcnfiopaaDoor.N
open Go Go.ChangeShapes Go.WideShapes Go.ChangeAt Go.RowKit Go.Proofs Go.Proofs.YtofkhehcnfiopaaDoor Go.Proofs.YtofkhehcnfiopaaDoor.Rows
theorem own_ : ownKnob Tryd.prog.godebug = Option.none := by kernel_rfl
theorem laidOut_ : laidOutB Tryd.prog = true := by kernel_rfl
theorem cells3_ : Tryd.prog.cellsOf 3 = 1 := by kernel_rfl
theorem und25_ : Tryd.prog.underlying 25 = some (.slice 3) := by kernel_rfl
theorem und3_ : Tryd.prog.underlying 3 = some (.int .i64) := by kernel_rfl
theorem und4_ : Tryd.prog.underlying 4 = some .bool := by kernel_rfl
theorem read25_ : Tryd.prog.readableRec 25 = true := by kernel_rfl
set_option maxRecDepth 100000 in
theorem size_ : 25 < Tryd.prog.types.size := of_decide_eq_true (by kernel_rfl)
def laidL : List (String × DataW Unit) := [("errors.errorType", laid_errors_errorType)]
/-- The settled world, with the one listed variable laid. -/
noncomputable def laidWorld (os : Os) : World :=
  let w0 := World.holding Tryd.prog os ⟨#[], #[], []⟩
  { w0 with heap := w0.heap.modify 0 fun
      | .cells _ t frozen => .cells #[.iface 166 (.agg #[.pointer (some ⟨1, 107, Option.none⟩)])] t frozen
      | o => o }
theorem laidWorld_met (os : Os) (args : Array Value) : laidMetH Tryd.prog laidL ((laidWorld os).forCall (fun _ _ => 0) ⟨#[], args, []⟩).memory :=
  laidMetH_of_parts (laidMet_nil _ _) (by kernel_rfl)
/-! What the listed variable holds. -/
/-! The program's order of start-up, letter by letter: what is said of it is then soon shown. -/
def orderN : List Nat := [104, 97, 114, 110, 101, 115, 115, 32, 52, 51, 55, 51, 50, 49, 102, 55, 48, 48, 50, 49, 100, 55, 53, 49, 98, 55, 102, 54, 57, 52, 102, 101, 54, 102, 52, 54, 99, 48, 98, 99, 101, 56, 49, 49, 56, 98, 100, 51, 55, 102, 52, 101, 52, 49, 49, 99, 97, 53, 99, 100, 55, 50, 51, 98, 48, 101, 48, 53, 57, 50, 100, 98, 32, 99, 117, 116, 32, 97, 116, 32, 109, 117, 115, 99, 111, 118, 97, 100, 111, 47, 109, 117, 115, 99, 111, 118, 97, 100, 111, 108, 97, 119, 48, 57, 46, 70, 105, 110, 105, 110, 103, 66, 111, 116, 104, 115, 32, 109, 117, 115, 99, 111, 118, 97, 100, 111, 47, 109, 117, 115, 99, 111, 118, 97, 100, 111, 108, 97, 119, 48, 57, 46, 70, 105, 110, 105, 110, 103, 67, 104, 101, 97, 112, 101, 115, 116, 32, 109, 117, 115, 99, 111, 118, 97, 100, 111, 47, 109, 117, 115, 99, 111, 118, 97, 100, 111, 108, 97, 119, 48, 57, 46, 70, 105, 110, 105, 110, 103, 66, 111, 116, 104, 32, 109, 117, 115, 99, 111, 118, 97, 100, 111, 47, 109, 117, 115, 99, 111, 118, 97, 100, 111, 108, 97, 119, 48, 57, 46, 70, 105, 110, 105, 110, 103, 84, 101, 108, 108, 115, 32, 109, 117, 115, 99, 111, 118, 97, 100, 111, 47, 109, 117, 115, 99, 111, 118, 97, 100, 111, 108, 97, 119, 48, 57, 46, 70, 105, 110, 105, 110, 103, 80, 117, 116, 32, 109, 117, 115, 99, 111, 118, 97, 100, 111, 47, 109, 117, 115, 99, 111, 118, 97, 100, 111, 108, 97, 119, 48, 57, 46, 70, 105, 110, 105, 110, 103, 80, 117, 116, 115, 32, 109, 117, 115, 99, 111, 118, 97, 100, 111, 47, 109, 117, 115, 99, 111, 118, 97, 100, 111, 108, 97, 119, 48, 57, 46, 70, 105, 110, 105, 110, 103, 77, 111, 114, 101, 32, 109, 117, 115, 99, 111, 118, 97, 100, 111, 47, 109, 117, 115, 99, 111, 118, 97, 100, 111, 108, 97, 119, 48, 57, 46, 70, 105, 110, 105, 110, 103, 78, 117, 109, 98, 101, 114, 101, 100, 32, 109, 117, 115, 99, 111, 118, 97, 100, 111, 47, 109, 117, 115, 99, 111, 118, 97, 100, 111, 108, 97, 119, 48, 57, 46, 70, 105, 110, 105, 110, 103, 78, 101, 101, 100, 115, 32, 109, 117, 115, 99, 111, 118, 97, 100, 111, 47, 109, 117, 115, 99, 111, 118, 97, 100, 111, 108, 97, 119, 48, 57, 46, 70, 105, 110, 105, 110, 103, 78, 101, 101, 100, 101, 100, 32, 109, 117, 115, 99, 111, 118, 97, 100, 111, 47, 109, 117, 115, 99, 111, 118, 97, 100, 111, 108, 97, 119, 48, 57, 46, 70, 105, 110, 105, 110, 103, 87, 97, 121, 115, 32, 109, 117, 115, 99, 111, 118, 97, 100, 111, 47, 109, 117, 115, 99, 111, 118, 97, 100, 111, 108, 97, 119, 48, 57, 46, 70, 105, 110, 105, 110, 103, 82, 101, 97, 99, 104, 32, 109, 117, 115, 99, 111, 118, 97, 100, 111, 47, 109, 117, 115, 99, 111, 118, 97, 100, 111, 108, 97, 119, 48, 57, 46, 70, 105, 110, 105, 110, 103, 83, 104, 111, 114, 116, 101, 115, 116, 32, 109, 117, 115, 99, 111, 118, 97, 100, 111, 47, 109, 117, 115, 99, 111, 118, 97, 100, 111, 108, 97, 119, 48, 57, 46, 70, 105, 110, 105, 110, 103, 72, 111, 112, 101, 108, 101, 115, 115, 32, 109, 117, 115, 99, 111, 118, 97, 100, 111, 47, 109, 117, 115, 99, 111, 118, 97, 100, 111, 108, 97, 119, 48, 57, 46, 70, 105, 110, 105, 110, 103, 70, 97, 117, 108, 116, 115, 32, 109, 117, 115, 99, 111, 118, 97, 100, 111, 47, 109, 117, 115, 99, 111, 118, 97, 100, 111, 108, 97, 119, 48, 57, 46, 70, 105, 110, 105, 110, 103, 72, 111, 112, 101, 115, 32, 109, 117, 115, 99, 111, 118, 97, 100, 111, 47, 109, 117, 115, 99, 111, 118, 97, 100, 111, 108, 97, 119, 48, 57, 46, 70, 105, 110, 105, 110, 103, 70, 101, 119, 101, 115, 116, 32, 109, 117, 115, 99, 111, 118, 97, 100, 111, 47, 109, 117, 115, 99, 111, 118, 97, 100, 111, 108, 97, 119, 48, 57, 46, 70, 105, 110, 105, 110, 103, 75, 110, 111, 119, 110]
def wordsN : List (List Nat) := [[104, 97, 114, 110, 101, 115, 115], [52, 51, 55, 51, 50, 49, 102, 55, 48, 48, 50, 49, 100, 55, 53, 49, 98, 55, 102, 54, 57, 52, 102, 101, 54, 102, 52, 54, 99, 48, 98, 99, 101, 56, 49, 49, 56, 98, 100, 51, 55, 102, 52, 101, 52, 49, 49, 99, 97, 53, 99, 100, 55, 50, 51, 98, 48, 101, 48, 53, 57, 50, 100, 98], [99, 117, 116], [97, 116], [109, 117, 115, 99, 111, 118, 97, 100, 111, 47, 109, 117, 115, 99, 111, 118, 97, 100, 111, 108, 97, 119, 48, 57, 46, 70, 105, 110, 105, 110, 103, 66, 111, 116, 104, 115], [109, 117, 115, 99, 111, 118, 97, 100, 111, 47, 109, 117, 115, 99, 111, 118, 97, 100, 111, 108, 97, 119, 48, 57, 46, 70, 105, 110, 105, 110, 103, 67, 104, 101, 97, 112, 101, 115, 116], [109, 117, 115, 99, 111, 118, 97, 100, 111, 47, 109, 117, 115, 99, 111, 118, 97, 100, 111, 108, 97, 119, 48, 57, 46, 70, 105, 110, 105, 110, 103, 66, 111, 116, 104], [109, 117, 115, 99, 111, 118, 97, 100, 111, 47, 109, 117, 115, 99, 111, 118, 97, 100, 111, 108, 97, 119, 48, 57, 46, 70, 105, 110, 105, 110, 103, 84, 101, 108, 108, 115], [109, 117, 115, 99, 111, 118, 97, 100, 111, 47, 109, 117, 115, 99, 111, 118, 97, 100, 111, 108, 97, 119, 48, 57, 46, 70, 105, 110, 105, 110, 103, 80, 117, 116], [109, 117, 115, 99, 111, 118, 97, 100, 111, 47, 109, 117, 115, 99, 111, 118, 97, 100, 111, 108, 97, 119, 48, 57, 46, 70, 105, 110, 105, 110, 103, 80, 117, 116, 115], [109, 117, 115, 99, 111, 118, 97, 100, 111, 47, 109, 117, 115, 99, 111, 118, 97, 100, 111, 108, 97, 119, 48, 57, 46, 70, 105, 110, 105, 110, 103, 77, 111, 114, 101], [109, 117, 115, 99, 111, 118, 97, 100, 111, 47, 109, 117, 115, 99, 111, 118, 97, 100, 111, 108, 97, 119, 48, 57, 46, 70, 105, 110, 105, 110, 103, 78, 117, 109, 98, 101, 114, 101, 100], [109, 117, 115, 99, 111, 118, 97, 100, 111, 47, 109, 117, 115, 99, 111, 118, 97, 100, 111, 108, 97, 119, 48, 57, 46, 70, 105, 110, 105, 110, 103, 78, 101, 101, 100, 115], [109, 117, 115, 99, 111, 118, 97, 100, 111, 47, 109, 117, 115, 99, 111, 118, 97, 100, 111, 108, 97, 119, 48, 57, 46, 70, 105, 110, 105, 110, 103, 78, 101, 101, 100, 101, 100], [109, 117, 115, 99, 111, 118, 97, 100, 111, 47, 109, 117, 115, 99, 111, 118, 97, 100, 111, 108, 97, 119, 48, 57, 46, 70, 105, 110, 105, 110, 103, 87, 97, 121, 115], [109, 117, 115, 99, 111, 118, 97, 100, 111, 47, 109, 117, 115, 99, 111, 118, 97, 100, 111, 108, 97, 119, 48, 57, 46, 70, 105, 110, 105, 110, 103, 82, 101, 97, 99, 104], [109, 117, 115, 99, 111, 118, 97, 100, 111, 47, 109, 117, 115, 99, 111, 118, 97, 100, 111, 108, 97, 119, 48, 57, 46, 70, 105, 110, 105, 110, 103, 83, 104, 111, 114, 116, 101, 115, 116], [109, 117, 115, 99, 111, 118, 97, 100, 111, 47, 109, 117, 115, 99, 111, 118, 97, 100, 111, 108, 97, 119, 48, 57, 46, 70, 105, 110, 105, 110, 103, 72, 111, 112, 101, 108, 101, 115, 115], [109, 117, 115, 99, 111, 118, 97, 100, 111, 47, 109, 117, 115, 99, 111, 118, 97, 100, 111, 108, 97, 119, 48, 57, 46, 70, 105, 110, 105, 110, 103, 70, 97, 117, 108, 116, 115], [109, 117, 115, 99, 111, 118, 97, 100, 111, 47, 109, 117, 115, 99, 111, 118, 97, 100, 111, 108, 97, 119, 48, 57, 46, 70, 105, 110, 105, 110, 103, 72, 111, 112, 101, 115], [109, 117, 115, 99, 111, 118, 97, 100, 111, 47, 109, 117, 115, 99, 111, 118, 97, 100, 111, 108, 97, 119, 48, 57, 46, 70, 105, 110, 105, 110, 103, 70, 101, 119, 101, 115, 116], [109, 117, 115, 99, 111, 118, 97, 100, 111, 47, 109, 117, 115, 99, 111, 118, 97, 100, 111, 108, 97, 119, 48, 57, 46, 70, 105, 110, 105, 110, 103, 75, 110, 111, 119, 110]]
set_option maxRecDepth 100000 in
theorem order_ : Tryd.prog.initOrder = String.ofList (orderN.map Char.ofNat) := by kernel_rfl
theorem orderL_ : Tryd.prog.initOrder.toList = orderN.map Char.ofNat := by rw [order_, String.toList_ofList]
def wordN (k : Nat) : List Char := (wordsN.getD k []).map Char.ofNat
def wordR : List (List Char) := (wordsN.drop 3).map (·.map Char.ofNat)
set_option maxRecDepth 100000 in
theorem words0_ : wordsSigns Tryd.prog.initOrder.toList = wordN 0 :: wordN 1 :: wordN 2 :: wordR := by
  rw [orderL_]
  kernel_rfl
theorem behind_of {a b : List Char} {r : List (List Char)} (h1 : (a == "harness".toList || a == "ownmain".toList) = true) (h2 : isSumSigns b = true) : behindMainWord (a :: b :: r) = r := by
  unfold behindMainWord
  dsimp only
  rw [h1, h2]
  rfl
theorem words_ : behindMainWord (wordsSigns Tryd.prog.initOrder.toList) = wordN 2 :: wordR := by
  rw [words0_]
  exact behind_of (by kernel_rfl) (by kernel_rfl)
theorem make_of {P : Program} {c : List Char} {rest : List (List Char)} (h : behindMainWord (wordsSigns P.initOrder.toList) = c :: rest) (h1 : (c == "gc".toList || c == "spec".toList) = false) (h2 : (c == "cut".toList) = true) : P.make = some .cut := by
  unfold Program.make
  rw [h]
  dsimp only
  rw [h1, h2]
  rfl
theorem may_of {P : Program} {c : List Char} {rest : List (List Char)} (h : behindMainWord (wordsSigns P.initOrder.toList) = c :: rest) (h1 : (stripLifts liftWords (c :: rest)).1 = []) (h2 : ((stripLifts liftWords (c :: rest)).2.head? == some "cut".toList) = true) (h3 : P.laysLater = false) (h4 : P.bearsReflect = false) (h5 : P.doorFits [] = true) : P.mayEnter = true := by
  unfold Program.mayEnter
  rw [h]
  dsimp only
  rw [h1, h2, h3, h4, h5]
  simp
theorem lifts_of {P : Program} {c : List Char} {rest : List (List Char)} (h : behindMainWord (wordsSigns P.initOrder.toList) = c :: rest) (h1 : (stripLifts liftWords (c :: rest)).1 = []) (h2 : (c == "carried".toList) = false) : P.liftsFinal = false := by
  have e : (some c == some "carried".toList) = false := h2
  unfold Program.liftsFinal Program.headLifts
  dsimp only
  rw [h, h1, List.head?_cons, e]
  simp
theorem main_of {P : Program} {a b : List Char} {r : List (List Char)} {s : String} (h : wordsSigns P.initOrder.toList = a :: b :: r) (h1 : isSumSigns b = true) (h2 : (a == "harness".toList) = true) (h3 : s = String.ofList b) : P.mainIs = some (true, s.toList) := by
  unfold Program.mainIs
  rw [h]
  dsimp only
  rw [h1, h2, h3]
  simp [String.toList_ofList]
theorem word_lifts : (stripLifts liftWords (wordN 2 :: wordR)).1 = [] := by kernel_rfl
set_option maxRecDepth 100000 in
theorem make_ : Tryd.prog.make = some .cut := make_of words_ (by kernel_rfl) (by kernel_rfl)
set_option maxRecDepth 100000 in
theorem lifts_ : Tryd.prog.liftsFinal = false := lifts_of words_ word_lifts (by kernel_rfl)
set_option maxRecDepth 100000 in
theorem main_ : Tryd.prog.mainIs = some (true, "437321f70021d751b7f694fe6f46c0bce8118bd37f4e411ca5cd723b0e0592db".toList) := main_of words0_ (by kernel_rfl) (by kernel_rfl) (by kernel_rfl)
set_option maxRecDepth 100000 in
theorem laysLater_ : Tryd.prog.laysLater = false := by kernel_rfl
set_option maxRecDepth 100000 in
theorem bearsReflect_ : Tryd.prog.bearsReflect = false := by kernel_rfl
set_option maxRecDepth 100000 in
theorem door_ : Tryd.prog.doorFits [] = true := by kernel_rfl
set_option maxRecDepth 100000 in
theorem may_ : Tryd.prog.mayEnter = true := may_of words_ word_lifts (by kernel_rfl) laysLater_ bearsReflect_ door_
set_option maxRecDepth 100000 in
theorem mapsRowed_ : mapsRowed Tryd.prog = true := by kernel_rfl
set_option maxRecDepth 100000 in
theorem plainKeys_ : Tryd.prog.plainKeys = false := by kernel_rfl
set_option maxRecDepth 100000 in
theorem stopsHeard_ : Tryd.prog.stopsHeard = true := by kernel_rfl
set_option maxRecDepth 100000 in
theorem looks_ : Tryd.prog.looks [] = true := by kernel_rfl
/-- A tied card whose calls can start goroutines. -/
theorem holds_tied_goes (Lk : Looks) {p : Pinned} {s : OpenSpec} {c : OpenClaim} (kinds : List LaidKind) (tests : Bool) (har : Bool × String) (lk g : Bool)
    (hc : c.holds p s) (hw : c.wfByText s = true) (htie : c.laidByTextAt Lk p kinds tests)
    (hst : c.start = .entering) (hnb : c.noBlocks = false ∧ c.again = false) (hm : p.checked.prog.mainIs = some (har.1, har.2.toList)) (hn : (!har.1 && har.2.isEmpty && !lk) = false)
    (hl : ∀ f fn, p.checked.prog.funcNamed c.func = some f → p.checked.prog.funcs[f]? = some fn → lk = p.checked.prog.looks [] ∧ ∀ (j : Nat) t, fn.params[j]? = some t → p.checked.prog.wantsStandIn t = false)
    (hg : g = c.goesBy p.checked.prog) :
    Claim7.holds p (.plain s) { stood := { row := c, standIns := [], harness := har, looks := lk }, kinds := [], alts := [], goes := g, laidByText := true, laidKinds := kinds, laidTests := tests, laidLooks := Lk } := by
  have h6 : ∀ r : OpenClaim, Claim7.isSixth { stood := { row := r, standIns := [], harness := har, looks := lk }, kinds := [] } = false := fun r => by simpa [Claim7.isSixth] using hn
  refine ⟨Claim7.tied_new_at Lk kinds tests (Claim7.new_of_sixth hc har lk hst hnb hm (h6 c) hl) hw, fun D hD => ?_, htie, (fun h => by cases h), hg⟩
  cases hD
end Go.Proofs.YtofkhehcnfiopaaDoor.N
/- What rows of laws about agents share: lists of numbers, agents and lists of agents out of what the statement lets the input be. -/
namespace Go.Proofs.YtofkhehcnfiopaaDoor.N
open Go Go.ChangeShapes Go.WideShapes Go.ChangeAt Go.RowKit Go.Proofs Go.Proofs.YtofkhehcnfiopaaDoor Go.Proofs.YtofkhehcnfiopaaDoor.Rows
theorem trodAll_below {H : Type} {enc : TypeId × Value → H} {W W' : World} (hn : Below W.heap.size W W') : ∀ {ts : List TypeId} {vs : List Value} {ds : List (DataW H)} {ps : List MemPlace},
    (∀ t ∈ ts, Tryd.prog.readableRec t = true ∧ t < Tryd.prog.types.size) → DataW.TrodAll enc Tryd.prog W 0 (fun _ => true) true ts vs ds ps → (∀ x ∈ ps, x.block < W.heap.size) →
    DataW.TrodAll enc Tryd.prog W' 0 (fun b => decide (b < W.heap.size)) true ts vs ds ps
  | [], _, _, _, _, h, _ => by
    obtain ⟨rfl, rfl, rfl⟩ := trodAll_nil h
    exact trodAll_mk0
  | t :: ts, vs, ds, ps, hr, h, hlt => by
    obtain ⟨v, vs', d, ds', p, q, rfl, rfl, rfl, h1, h2⟩ := trodAll_cons h
    exact trodAll_cons_mk (Below.trod laidOut_ (hr t (by simp)).1 (hr t (by simp)).2 h1 hn (fun x hx => hlt x (List.mem_append_left _ hx))) (trodAll_below hn (fun u hu => hr u (by simp [hu])) h2 (fun x hx => hlt x (List.mem_append_right _ hx)))
set_option maxRecDepth 100000 in
/-- A law's answer out of its call. -/
theorem grown_post {H : Type} {enc : TypeId × Value → H} {f : FuncId} {fn : Func} {s : ChangeSpec} (hr : fn.resultTypes = #[4]) (hs : s.vars = []) (hread : ∀ t ∈ fn.params.toList, Tryd.prog.readableRec t = true ∧ t < Tryd.prog.types.size)
    {W : World} {args : Array Value} {ds gs : List (DataW H)} {before : List MemPlace} (hfn : s.fn H ds = { results := [.lit (.bool true)], args := ds })
    (hW : DataW.Whole enc Tryd.prog fn.params.toList s.vars false W args.toList ds gs before)
    (hc : Calls Tryd.prog f args W fun e w' => e = .returned (.bool true) ∧ Grew W w' []) :
    Calls Tryd.prog f args W fun e W' => ∃ v, e = .returned v ∧ s.post enc Tryd.prog fn false true false false W args v W' := by
  have hW' := hW
  obtain ⟨p, q, hA, hV, rfl, _, _⟩ := hW
  rw [hs] at hV
  obtain ⟨rfl, rfl⟩ := trodVars_none hV
  simp only [List.append_nil] at hW'
  refine hc.mono fun e W' ⟨he, hg⟩ => ?_
  subst he
  refine ⟨_, rfl, _, _, _, [], p, [], hW', ?_, ?_, ?_, hg.1.frame _, fun h => Bool.noConfusion h⟩
  · rw [List.append_nil, hfn, hr]; exact trodAll_mk1 (shut_bool und4_ true)
  · rw [List.append_nil, hfn]; exact trodAll_below hg.1 hread hA (fun x hx => hW'.lt x hx)
  · rw [List.append_nil, hfn, hs]; rfl
set_option maxRecDepth 100000 in
/-- A list of numbers. -/
theorem slice_ints {H : Type} {enc : TypeId × Value → H} {W : World} {base : Nat} {v : Value} {d : DataW H} {p : List MemPlace} (hok : Value.okWide Tryd.prog W .any base 25 v)
    (h : DataW.Trod enc Tryd.prog W 0 (fun _ => true) true 25 v d p) (hlt : ∀ x ∈ p, x.block < W.heap.size) :
    ∃ (A : Option Addr) (c : Nat) (l : List Int), v = .slice A l.length c ∧ RdL icell 1 W A l ∧ (A = Option.none → l = [] ∧ c = 0) := by
  obtain ⟨a0, len, cap, rfl⟩ := okWide_slice und25_ hok
  obtain ⟨fuel, hf⟩ := h
  rcases open_ints und25_ und3_ cells3_ hf with ⟨hcs, hx⟩ | ⟨a, len', cap', zs, hcs, _, hl, hm, hz, hx, hcell, hwz⟩
  · simp [Value.cells] at hcs
    obtain ⟨rfl, rfl, rfl⟩ := hcs
    exact ⟨_, _, [], rfl, fun h => absurd h (by simp), fun _ => ⟨rfl, rfl⟩⟩
  · simp [Value.cells] at hcs
    obtain ⟨rfl, rfl, rfl⟩ := hcs
    simp only [Prod.mk.injEq] at hx
    obtain ⟨rfl, rfl⟩ := hx
    simp only [if_true] at hz
    obtain ⟨b, off, spot⟩ := a
    have hlen : (zs.take len).length = len := by rw [List.length_take]; omega
    refine ⟨_, cap, zs.take len, by rw [hlen], fun hpos => ?_, fun h => by cases h⟩
    rw [hlen] at hpos
    have hspot : spot = Option.none := by simpa [Addr.add] using World.cell?_spot (hcell 0 (by omega))
    subst hspot
    refine ⟨b, off, rfl, hlt (.cell b off) (MemPlace.mem_row.2 ⟨0, by omega, by simp⟩), fun k x hk j u hu => ?_⟩
    rw [List.getElem?_take] at hk
    split at hk
    · rename_i hkl
      cases j with
      | zero =>
        simp [icell] at hu
        subst hu
        have := hcell k (by omega)
        rw [List.getD_eq_getElem?_getD, hk] at this
        rw [Nat.mul_one, Nat.add_zero]
        rw [add_plain] at this
        exact this
      | succ j => simp [icell] at hu
    · cases hk
set_option maxRecDepth 100000 in
/-- An agent. -/
theorem agent_cells {H : Type} {enc : TypeId × Value → H} {W : World} {fuel : Nat} {cs : List Value} {x : DataW H × List MemPlace} (h : DataW.trod enc Tryd.prog W 0 (fun _ => true) true fuel 24 cs = some x) :
    ∃ y : RA, y.wf ∧ cs = y.cells := by
  obtain ⟨xs, n, _, _, hcl, hxl, hf⟩ := DataW.trod_struct Tryd.underlying24 h
  rw [co24] at hcl
  match cs, hcl with
  | [v0, v1, v2, v3, v4], _ =>
    have g : ∀ (i : Nat) (v : Value), ([v0, v1, v2, v3, v4] : List Value)[i]? = some v → i < 5 → ∃ m, v = .int .i64 m ∧ W64 m := by
      intro i v hi h5
      have key : ∀ x, DataW.trod enc Tryd.prog W 0 (fun _ => true) true n 3 [v] = some x → ∃ m, v = .int .i64 m ∧ W64 m := fun x hx => by
        obtain ⟨m, h1, _, h3⟩ := DataW.trod_int und3_ hx
        exact ⟨m, List.singleton_inj.1 h1, bounds_i64 h3⟩
      match i, h5 with
      | 0, _ =>
        have := hf 0 _ rfl
        simp [cells3_] at this hi
        subst hi
        exact key _ (this.trans (List.getElem?_eq_getElem (by simp [hxl])))
      | 1, _ =>
        have := hf 1 _ rfl
        simp [cells3_] at this hi
        subst hi
        exact key _ (this.trans (List.getElem?_eq_getElem (by simp [hxl])))
      | 2, _ =>
        have := hf 2 _ rfl
        simp [cells3_] at this hi
        subst hi
        exact key _ (this.trans (List.getElem?_eq_getElem (by simp [hxl])))
      | 3, _ =>
        have := hf 3 _ rfl
        simp [cells3_] at this hi
        subst hi
        exact key _ (this.trans (List.getElem?_eq_getElem (by simp [hxl])))
      | 4, _ =>
        have := hf 4 _ rfl
        simp [cells3_] at this hi
        subst hi
        exact key _ (this.trans (List.getElem?_eq_getElem (by simp [hxl])))
    obtain ⟨m0, rfl, w0⟩ := g 0 v0 rfl (by omega)
    obtain ⟨m1, rfl, w1⟩ := g 1 v1 rfl (by omega)
    obtain ⟨m2, rfl, w2⟩ := g 2 v2 rfl (by omega)
    obtain ⟨m3, rfl, w3⟩ := g 3 v3 rfl (by omega)
    obtain ⟨m4, rfl, w4⟩ := g 4 v4 rfl (by omega)
    exact ⟨⟨m0, m1, m2, m3, m4⟩, ⟨w0, w1, w2, w3, w4⟩, rfl⟩
set_option maxRecDepth 100000 in
theorem arg_agent {H : Type} {enc : TypeId × Value → H} {W : World} {base : Nat} {v : Value} {d : DataW H} {p : List MemPlace} (hok : Value.okWide Tryd.prog W .any base 24 v)
    (h : DataW.Trod enc Tryd.prog W 0 (fun _ => true) true 24 v d p) : ∃ y : RA, y.wf ∧ v = .agg y.cells.toArray := by
  obtain ⟨cs, rfl, _⟩ := okWide_struct Tryd.underlying24 hok
  obtain ⟨fuel, hf⟩ := h
  obtain ⟨y, hy, hc⟩ := agent_cells hf
  simp only [Value.cells] at hc
  exact ⟨y, hy, by rw [← hc]⟩
set_option maxRecDepth 100000 in
/-- A list of agents. -/
theorem slice_agents {H : Type} {enc : TypeId × Value → H} {W : World} {base : Nat} {v : Value} {d : DataW H} {p : List MemPlace} (hok : Value.okWide Tryd.prog W .any base 22 v)
    (h : DataW.Trod enc Tryd.prog W 0 (fun _ => true) true 22 v d p) (hlt : ∀ x ∈ p, x.block < W.heap.size) :
    ∃ (A : Option Addr) (c : Nat) (l : List RA), v = .slice A l.length c ∧ RdL RA.cells 5 W A l ∧ (∀ y ∈ l, y.wf) ∧ (A = Option.none → l = [] ∧ c = 0) := by
  obtain ⟨a0, len, cap, rfl⟩ := okWide_slice Tryd.underlying22 hok
  obtain ⟨fuel, hf⟩ := h
  rcases Go.Deep.open_slice Tryd.underlying22 hf with ⟨hcs, hx⟩ | ⟨a, len', cap', m, n, D, Pl, hcs, _, hl, hm, hmm, hx, hi⟩
  · simp [Value.cells] at hcs
    obtain ⟨rfl, rfl, rfl⟩ := hcs
    exact ⟨_, _, [], rfl, fun h => absurd h (by simp), fun y hy => (List.not_mem_nil hy).elim, fun _ => ⟨rfl, rfl⟩⟩
  · simp [Value.cells] at hcs
    obtain ⟨rfl, rfl, rfl⟩ := hcs
    simp only [Prod.mk.injEq] at hx
    obtain ⟨rfl, rfl⟩ := hx
    simp only [if_true] at hmm
    subst hmm
    rw [co24] at hi
    obtain ⟨Y, hY⟩ := Go.Deep.choose_lt (α := RA) (p := fun i y => y.wf ∧ ∀ j u, y.cells[j]? = some u → W.cell? (a.add (i * 5 + j)) = some u) (fun i hlt' => by
      obtain ⟨cs', h1, h2⟩ := hi i hlt'
      obtain ⟨y, hy, rfl⟩ := agent_cells h2
      obtain ⟨_, _, h3⟩ := World.cells?_some h1
      refine ⟨y, hy, fun j u hu => ?_⟩
      have hj : j < 5 := by
        have := (List.getElem?_eq_some_iff.1 hu).1
        simpa [RA.cells] using this
      have := h3 j hj
      rw [hu, Go.Deep.add_add] at this
      exact this)
    have hlen : ((List.range len).map Y).length = len := by simp
    obtain ⟨b, off, spot⟩ := a
    refine ⟨_, m, (List.range len).map Y, by rw [hlen], fun hpos => ?_, fun y hy => ?_, fun h => by cases h⟩
    · rw [hlen] at hpos
      have hspot : spot = Option.none := by simpa [Addr.add] using World.cell?_spot ((hY 0 (by omega)).2 0 _ rfl)
      subst hspot
      refine ⟨b, off, rfl, hlt (.cell b off) (List.mem_append_left _ (MemPlace.mem_row.2 ⟨0, by rw [co24]; omega, by simp⟩)), fun k x hk j u hu => ?_⟩
      rw [List.getElem?_map] at hk
      obtain ⟨i, h1, rfl⟩ := Option.map_eq_some_iff.1 hk
      obtain ⟨h2, h3⟩ := List.getElem?_eq_some_iff.1 h1
      rw [List.getElem_range] at h3
      subst h3
      rw [List.length_range] at h2
      have := (hY k (by omega)).2 j u hu
      rw [add_plain, ← Nat.add_assoc] at this
      exact this
    · obtain ⟨i, h1, rfl⟩ := List.mem_map.1 hy
      exact (hY i (by have := List.mem_range.1 h1; omega)).1
set_option maxRecDepth 100000 in
theorem read22_ : Tryd.prog.readableRec 22 = true ∧ 22 < Tryd.prog.types.size := ⟨by kernel_rfl, of_decide_eq_true (by kernel_rfl)⟩
set_option maxRecDepth 100000 in
theorem read24_ : Tryd.prog.readableRec 24 = true ∧ 24 < Tryd.prog.types.size := ⟨by kernel_rfl, of_decide_eq_true (by kernel_rfl)⟩
set_option maxRecDepth 100000 in
theorem read3_ : Tryd.prog.readableRec 3 = true ∧ 3 < Tryd.prog.types.size := ⟨by kernel_rfl, of_decide_eq_true (by kernel_rfl)⟩
theorem read25b_ : Tryd.prog.readableRec 25 = true ∧ 25 < Tryd.prog.types.size := ⟨read25_, size_⟩
end Go.Proofs.YtofkhehcnfiopaaDoor.N
