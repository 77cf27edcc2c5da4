/- Parts of the walks of the laws on fining, those that FiningWays needs: All5, F68, RowV, RowV2. -/
import Derived.Test.YtofkhehcnfiopaaDoorSFiningWays09
import Derived.Test.YtofkhehcnfiopaaDoorSFiningWays08
import Derived.Test.YtofkhehcnfiopaaDoorProg
import Derived.Test.YtofkhehcnfiopaaDoorSFiningWays03
import Derived.Test.YtofkhehcnfiopaaDoorSFiningWays07
import Derived.Test.YtofkhehcnfiopaaDoorRows
import Derived.ChangeSame
import Derived.ChangeVars
import Derived.JoinedOf
import Derived.RowKit
import Derived.RowKitTokens
import Derived.LaidLaws
import Derived.LaidHandle
import Derived.Stop.Joined
import Derived.ProofKit
import Derived.SizedLaws
import Derived.OpenShut
import Derived.SevenTiedAt
import Derived.Conc.Holds
import Derived.Deep.Slices
namespace Go.Proofs.YtofkhehcnfiopaaDoor.N
open Go Go.RowKit Go.Proofs
set_option linter.unusedSectionVars false
variable [I : Sys] [R : Rea]
/-! What is reached, the shortest and the cheapest way, of whatever agents, a melt and faults. -/
noncomputable def reaL (l : List RA) (m : Int) : List Nat := if askedR l m 0 = 0 then rchL (agsOf l) m.toNat else []
theorem reaL_le (l : List RA) (m : Int) : (reaL l m).length ≤ 64 := by
  unfold reaL
  split
  · exact rchL_len _ _
  · exact Nat.zero_le _
theorem Reach_all (A : Option Addr) (c : Nat) (l : List RA) (m : Int) (w : World) (hA : RdL RA.cells 5 w A l) (hR : Rdy w) : Calls Tryd.prog 59 #[.slice A l.length c, .int .i64 m] w (Says w (reaL l m) (askedR l m 0)) := by
  by_cases hc : checkR l = 0
  · cases hb : inB m 0 63 with
    | true =>
      obtain ⟨f, rfl, hf⟩ := nat_of_inB hb
      have h0 : askedR l (f : Int) 0 = 0 := by unfold askedR; rw [if_neg (by simpa using hc), if_pos (by rw [hb, in0]; rfl)]
      have h := Reach_ok A c (agsOf l) (checkR_oks hc) f hf w (hA.ag hc) hR
      rw [agsOf_len] at h
      unfold reaL
      rw [if_pos h0, h0, Int.toNat_natCast]
      exact h
    | false =>
      have h1 := askedR_one (p := 0) hc (.inl hb)
      have h := Reach_bad0 A c (agsOf l) (checkR_oks hc) m hb w (hA.ag hc)
      rw [agsOf_len] at h
      unfold reaL
      rw [if_neg (by rw [h1]; decide), h1]
      exact h.mono fun e w' h => Says.nil h
  · have h1 := askedR_check (m := m) (p := 0) hc
    unfold reaL
    rw [if_neg (by rw [h1]; exact hc), h1]
    exact (Reach_bad A c l hc m w hA).mono fun e w' h => Says.nil h
theorem rReach_all (A : Option Addr) (c : Nat) (l : List RA) (m : Int) (w : World) (hA : RdL RA.cells 5 w A l) : Calls Tryd.prog 60 #[.slice A l.length c, .int .i64 m] w (Says w (reaL l m) (askedR l m 0)) := by
  by_cases h0 : askedR l m 0 = 0
  · obtain ⟨hc, hb, _⟩ := askedR_zero h0
    obtain ⟨f, rfl, hf⟩ := nat_of_inB hb
    have h := rReach_ok A c (agsOf l) (checkR_oks hc) f hf w (hA.ag hc)
    rw [agsOf_len] at h
    unfold reaL
    rw [if_pos h0, h0, Int.toNat_natCast]
    exact h
  · unfold reaL
    rw [if_neg h0]
    exact (rReach_bad A c l m h0 w hA).mono fun e w' h => Says.nil h
theorem Shortest_all (A : Option Addr) (c : Nat) (l : List RA) (m p : Int) (w : World) (hA : RdL RA.cells 5 w A l) : Calls Tryd.prog 53 #[.slice A l.length c, .int .i64 m, .int .i64 p] w (Says w (twoR shoA l m p).1 (twoR shoA l m p).2) :=
  prog_two shoA (fun ags hok f p hf hp w hA => (Shortest_ok A c ags hok f p hf hp w hA).mono fun e w' h => by
    obtain ⟨o, h1, h2, h3⟩ := h
    have hq := found_shq hok hf h1
    rw [shoA_is hq.le hq]
    exact ⟨_, _, h2.trans (by cases o <;> rfl), h3⟩) (fun l hn n0 n1 w hA => Shortest_bad A c l hn n0 n1 w hA) (fun ags hok n0 h0 n1 w hA => Shortest_bad0 A c ags hok n0 h0 n1 w hA) (fun ags hok n0 h0 n1 h1 w hA => Shortest_bad1 A c ags hok n0 h0 n1 h1 w hA) l m p w hA
theorem rShortest_all (A : Option Addr) (c : Nat) (l : List RA) (m p : Int) (w : World) (hA : RdL RA.cells 5 w A l) : Calls Tryd.prog 61 #[.slice A l.length c, .int .i64 m, .int .i64 p] w (Says w (twoR shoA l m p).1 (twoR shoA l m p).2) :=
  ref_two shoA (fun ags hok f p hf hp w hA => (rShortest_ok A c ags hok f p hf hp w hA).mono fun e w' h => by
    obtain ⟨W, E, A', c', hq, h2, h3⟩ := h
    rw [shoA_is hq.le hq]
    exact ⟨_, _, h2, h3⟩) (fun l m p hn w hA => rShortest_bad A c l m p hn w hA) l m p w hA
theorem sho_le (l : List RA) (m p : Int) : (twoR shoA l m p).1.length ≤ 63 := twoR_le5 shoA_le l m p
/-- Three things said. -/
noncomputable def cheR (l : List RA) (m p : Int) : List Nat × Nat × Nat := if askedR l m p = 0 then cheA (agsOf l) p.toNat m.toNat else ([], 0, askedR l m p)
theorem cheR_le (l : List RA) (m p : Int) : (cheR l m p).1.length ≤ 63 := by
  unfold cheR
  split
  · exact cheA_le _ _ _
  · exact Nat.zero_le _
def Says3 (w : World) (L : List Nat) (n E : Nat) (e : Ending) (w' : World) : Prop := ∃ (A' : Option Addr) (c' : Nat), e = .returned (.tuple #[.slice A' L.length c', .int .i64 (n : Int), .int .i64 (E : Int)]) ∧ Grew w w' [.row 3 1 A' L.length c' (ints L)]
theorem Says3.nil {w w' : World} {E : Nat} {e : Ending} (h : e = .returned (.tuple #[.slice none 0 0, .int .i64 0, .int .i64 (E : Int)]) ∧ Grew w w' []) : Says3 w [] 0 E e w' := ⟨none, 0, h.1, grew_nil h.2⟩
theorem cheR_ok {l : List RA} {f p : Nat} (h : askedR l (f : Int) (p : Int) = 0) : cheR l (f : Int) (p : Int) = cheA (agsOf l) p f := by
  unfold cheR
  rw [if_pos h, Int.toNat_natCast, Int.toNat_natCast]
theorem cheR_bad {l : List RA} {m p : Int} {E : Nat} (h : askedR l m p = E) (hE : E ≠ 0) : cheR l m p = ([], 0, E) := by
  unfold cheR
  rw [h, if_neg hE]
theorem Cheapest_all (A : Option Addr) (c : Nat) (l : List RA) (m p : Int) (w : World) (hA : RdL RA.cells 5 w A l) : Calls Tryd.prog 35 #[.slice A l.length c, .int .i64 m, .int .i64 p] w (Says3 w (cheR l m p).1 (cheR l m p).2.1 (cheR l m p).2.2) := by
  by_cases hc : checkR l = 0
  · cases hb : inB m 0 63 with
    | true =>
      obtain ⟨f, rfl, hf⟩ := nat_of_inB hb
      cases hq : inB p 0 63 with
      | true =>
        obtain ⟨q, rfl, hq'⟩ := nat_of_inB hq
        have h0 : askedR l (f : Int) (q : Int) = 0 := by unfold askedR; rw [if_neg (by simpa using hc), if_pos (by rw [hb, hq]; rfl)]
        have h := Cheapest_c A c (agsOf l) (checkR_oks hc) f q hf hq' w (hA.ag hc)
        rw [agsOf_len] at h
        rw [cheR_ok h0]
        refine h.mono fun e w' h => ?_
        obtain ⟨W, k, E, A', c', h1, h2, h3⟩ := h
        rw [← agsOf_len l] at h1
        rw [cheA_is (h1.len (checkR_oks hc) hf) h1]
        exact ⟨_, _, h2, h3⟩
      | false =>
        have h1 := askedR_one (m := (f : Int)) (p := p) hc (.inr hq)
        have h := Cheapest_bad1 A c (agsOf l) (checkR_oks hc) f hf p hq w (hA.ag hc)
        rw [agsOf_len] at h
        rw [cheR_bad h1 (by decide)]
        exact h.mono fun e w' h => Says3.nil h
    | false =>
      have h1 := askedR_one (p := p) hc (.inl hb)
      have h := Cheapest_bad0 A c (agsOf l) (checkR_oks hc) m hb p w (hA.ag hc)
      rw [agsOf_len] at h
      rw [cheR_bad h1 (by decide)]
      exact h.mono fun e w' h => Says3.nil h
  · have h1 := askedR_check (m := m) (p := p) hc
    rw [cheR_bad h1 hc]
    exact (Cheapest_bad A c l hc m p w hA).mono fun e w' h => Says3.nil h
theorem rCheapest_all (A : Option Addr) (c : Nat) (l : List RA) (m p : Int) (w : World) (hA : RdL RA.cells 5 w A l) : Calls Tryd.prog 62 #[.slice A l.length c, .int .i64 m, .int .i64 p] w (Says3 w (cheR l m p).1 (cheR l m p).2.1 (cheR l m p).2.2) := by
  by_cases h0 : askedR l m p = 0
  · obtain ⟨hc, hb, hq⟩ := askedR_zero h0
    obtain ⟨f, rfl, hf⟩ := nat_of_inB hb
    obtain ⟨q, rfl, hq'⟩ := nat_of_inB hq
    have h := rCheapest_ok A c (agsOf l) (checkR_oks hc) f q hf hq' w (hA.ag hc)
    rw [agsOf_len] at h
    rw [cheR_ok h0]
    refine h.mono fun e w' h => ?_
    obtain ⟨W, k, E, A', c', h1, h2, h3⟩ := h
    rw [← agsOf_len l] at h1
    rw [cheA_is (h1.len (checkR_oks hc) hf) h1]
    exact ⟨_, _, h2, h3⟩
  · rw [cheR_bad rfl h0]
    exact (rCheapest_bad A c l m p h0 w hA).mono fun e w' h => Says3.nil h
end Go.Proofs.YtofkhehcnfiopaaDoor.N
namespace Go.Proofs.YtofkhehcnfiopaaDoor.N
open Go Go.RowKit Go.Proofs
set_option linter.unusedSectionVars false
variable [I : Sys] [R : Rea]
theorem F.ent60 : Enters Tryd.prog 60 := enters_of Tryd.func60 rfl (by kernel_rfl)
theorem F.ent61 : Enters Tryd.prog 61 := enters_of Tryd.func61 rfl (by kernel_rfl)
theorem F.ent62 : Enters Tryd.prog 62 := enters_of Tryd.func62 rfl (by kernel_rfl)
theorem FiningWays_c (A0 : Option Addr) (c0 : Nat) (lag : List RA) (x : RA) (melt pass : Int) (nA : Option Addr) (nc : Nat) (nums : List Int) (hwf : ∀ y ∈ lag, y.wf) (hxw : x.wf) (hn0 : A0 = none → lag = [] ∧ c0 = 0) (w : World) (hA : RdL RA.cells 5 w A0 lag) (hN : RdL icell 1 w nA nums) (hR : Rdy w) : Calls Tryd.prog 13 #[.slice A0 lag.length c0, .agg [.int .i64 x.needs, .int .i64 x.no, .int .i64 x.takes, .int .i64 x.leaves, .int .i64 x.cost].toArray, .int .i64 melt, .int .i64 pass, .slice nA nums.length nc] w fun e w' => e = .returned (.bool true) ∧ Grew w w' [] := by
  refine enter (N := 192) [(0, .slice A0 lag.length c0), (1, .agg [.int .i64 x.needs, .int .i64 x.no, .int .i64 x.takes, .int .i64 x.leaves, .int .i64 x.cost].toArray), (2, .int .i64 melt), (3, .int .i64 pass), (4, .slice nA nums.length nc)] Tryd.func13 rfl Tryd.ntmps13 rfl rfl ?_
  refine cod_seq ?_
  refine cod_region ?_
  refine lst_box rfl rfl ?_
  intro b6
  refine lst_assign rfl rfl ?_
  refine lst_nil ?_
  refine ex_then ?_
  refine cod_seq ?_
  refine cod_seq ?_
  refine cod_region ?_
  refine lst_move rfl rfl ?_
  refine lst_len rfl rfl Tryd.underlying22 ?_
  refine lst_int rfl rfl rfl bin_gtr ?_
  refine lst_nil ?_
  refine ex_then ?_
  refine cod_cond_dec rfl (fun hc0 => ?_) (fun hc0 => ?_)
  · skip
    refine cod_seq ?_
    refine cod_region ?_
    refine lst_fn0 (vs := []) rfl rfl F.ent21 (fun a w ha => fined_c w) ?_
    refine lst_assign rfl rfl ?_
    refine lst_nil ?_
    refine ex_then ?_
    refine cod_ret ?_
    refine ex_then_ret ?_
    exact ex_ret rfl (fun a w ha => res_one rfl rfl ha) (fun a w ha => ⟨rfl, ha.grown (List.nil_sublist _)⟩)
  · skip
    have hlag : lag.length ≤ 20 := by omega
    refine cod_skip ?_
    refine ex_then ?_
    refine cod_seq ?_
    refine cod_region ?_
    refine lst_move rfl rfl ?_
    refine lst_fn (X := Nat) (vs := [_]) (p := fun _ => True) (val := fun b => .pointer (some ⟨b, 0, none⟩)) (rs := fun b => [.blk b (hatO nA nums.length nc 0 11400714819323198485)]) rfl rfl F.ent22 (fun a w ha => (NewHat_c nA nums.length nc w).mono (fun e w' h => by obtain ⟨b, h1, h2⟩ := h; exact ⟨b, trivial, h1, h2⟩)) ?_
    intro hb _
    dsimp only [List.cons_append, List.nil_append]
    refine lst_assign rfl rfl ?_
    refine lst_nil ?_
    refine ex_then ?_
    refine cod_seq ?_
    refine cod_region ?_
    refine lst_move rfl rfl ?_
    refine lst_loadN rfl rfl F.agg24 F.ti24 ?_
    refine lst_move rfl rfl ?_
    refine lst_call (X := Nat × Nat × Nat × List Ag × List Ag × Option Addr × Option Addr × Nat × Nat) (first := []) (cap := []) (vs := [_, _, _]) (p := fun y => y.1 ≤ 400 ∧ y.2.1 < 18446744073709551616 ∧ y.2.2.2.1.length ≤ 4 ∧ (∀ z ∈ y.2.2.2.1, z.ok) ∧ y.2.2.2.2.1.length ≤ 3 ∧ ∀ z ∈ y.2.2.2.2.1, z.ok) (val := fun y => .slice (some ⟨y.2.2.1, 0, none⟩) 3 3) (rs := fun y => .blk y.2.2.1 (.cells [.slice A0 lag.length c0, .slice y.2.2.2.2.2.1 y.2.2.2.1.length y.2.2.2.2.2.2.2.1, .slice y.2.2.2.2.2.2.1 (y.2.2.2.2.1.length + 1) y.2.2.2.2.2.2.2.2].toArray 22 (0, 0)) :: .row 24 5 y.2.2.2.2.2.1 y.2.2.2.1.length y.2.2.2.2.2.2.2.1 (y.2.2.2.1.flatMap Ag.cells) :: .row 24 5 y.2.2.2.2.2.2.1 (y.2.2.2.2.1.length + 1) y.2.2.2.2.2.2.2.2 (y.2.2.2.2.1.flatMap Ag.cells ++ [.int .i64 x.needs, .int .i64 x.no, .int .i64 x.takes, .int .i64 x.leaves, .int .i64 x.cost]) :: .blk hb (hatO nA nums.length nc y.1 y.2.1) :: []) rfl rfl rfl F.ent23 (fun a w ha => (several_c (C := ⟨Tryd.prog, _, _, _, _⟩) (T := []) (x := x) rfl rfl hN (tk := 0) (st := 11400714819323198485) (by omega) (by omega) (ha.pck pkk)).mono (fun e w' h => by obtain ⟨t', s', b, l1, l2, A1, A2, c1, c2, g1, g2, g3, g4, g5, g6, g7, g8⟩ := h; exact ⟨(t', s', b, l1, l2, A1, A2, c1, c2), ⟨by (try dsimp only); omega, g2, g3, g4, g5, g6⟩, g7, g8⟩)) ?_
    rintro ⟨t1, s1, bS, l1, l2, A1, A2, c1, c2⟩ ⟨ht1, hs1, hl1, ho1, hl2, ho2⟩
    dsimp only at ht1 hs1 hl1 ho1 hl2 ho2 ⊢
    obtain ⟨q1, hq1⟩ : ∃ q, q = l1.map Ag.raw := ⟨_, rfl⟩
    obtain ⟨q2, hq2⟩ : ∃ q, q = l2.map Ag.raw ++ [x] := ⟨_, rfl⟩
    have e1 : l1.length = q1.length := by rw [hq1, List.length_map]
    have e2 : l2.length + 1 = q2.length := by rw [hq2, List.length_append, List.length_map]; rfl
    have e3 : l1.flatMap Ag.cells = q1.flatMap RA.cells := by rw [hq1, raw_cells]
    have e4 : l2.flatMap Ag.cells ++ [.int .i64 x.needs, .int .i64 x.no, .int .i64 x.takes, .int .i64 x.leaves, .int .i64 x.cost] = q2.flatMap RA.cells := by rw [hq2, List.flatMap_append, raw_cells, List.flatMap_singleton]; rfl
    rw [e1, e2, e3, e4]
    have hw1 : ∀ y ∈ q1, y.wf := fun y hy => by rw [hq1] at hy; obtain ⟨z, hz, rfl⟩ := List.mem_map.1 hy; exact raw_wf (ho1 z hz)
    have hw2 : ∀ y ∈ q2, y.wf := fun y hy => by rw [hq2] at hy; exact (List.mem_append.1 hy).elim (fun h => by obtain ⟨z, hz, rfl⟩ := List.mem_map.1 h; exact raw_wf (ho2 z hz)) (fun h => by simp at h; subst h; exact hxw)
    have hp0 : (fun A c L => Rds RA.cells 5 ⟨Tryd.prog, w.heap.size, w, 0, []⟩ [.row 24 5 A1 q1.length c1 (q1.flatMap RA.cells), .row 24 5 A2 q2.length c2 (q2.flatMap RA.cells)] A L ∧ L.length ≤ 20 ∧ (∀ y ∈ L, y.wf) ∧ (A = none → L = [] ∧ c = 0)) A0 c0 lag := ⟨Rds.old hA rfl, hlag, hwf, hn0⟩
    refine lst_assign rfl rfl ?_
    refine lst_nil ?_
    refine ex_then ?_
    refine cod_seq ?_
    refine cod_seq ?_
    refine cod_region ?_
    refine lst_assign rfl rfl ?_
    refine lst_nil ?_
    refine ex_then ?_
    refine cod_block ?_
    refine cod_loop' (G := Nat × Nat × Nat) (fun g => g.1 ≤ 3 ∧ g.2.1 ≤ 400 + 200 * g.1 ∧ g.2.2 < 18446744073709551616) (fun g => 3 - g.1) (fun g => [(2, .int .i64 melt), (3, .int .i64 pass), (11, .pointer (some ⟨hb, 0, none⟩)), (12, .slice (some ⟨bS, 0, none⟩) 3 3), (13, .int .i64 (g.1 : Int))]) (fun g => .blk hb (hatO nA nums.length nc (g.2.1) (g.2.2)) :: .blk bS (.cells [.slice A0 lag.length c0, .slice A1 q1.length c1, .slice A2 q2.length c2].toArray 22 (0, 0)) :: .row 24 5 A1 q1.length c1 (q1.flatMap RA.cells) :: .row 24 5 A2 q2.length c2 (q2.flatMap RA.cells) :: []) (0, t1, s1) ⟨Nat.zero_le _, ht1, hs1⟩ sbn pkk ?_
    rintro ⟨i, t2, s2⟩ ⟨hi, ht2, hs2⟩
    dsimp only at hi ht2 hs2 ⊢
    refine cod_seq ?_
    refine cod_seq ?_
    refine cod_region ?_
    refine lst_move rfl rfl ?_
    refine lst_move rfl rfl ?_
    refine lst_len rfl rfl Tryd.underlying29 ?_
    refine lst_int rfl rfl rfl bin_lss ?_
    refine lst_nil ?_
    refine ex_then ?_
    refine cod_cond_dec rfl (fun hc1 => ?_) (fun hc1 => ?_)
    · skip
      have hi3 : i < 3 := by omega
      refine cod_know (φ := A1 = none → q1.length = 0 ∧ c1 = 0) (fun a w ha h => row_none ha (InR.mem (A := A1)) h) (fun hn1 => ?_)
      refine cod_know (φ := A2 = none → q2.length = 0 ∧ c2 = 0) (fun a w ha h => row_none ha (InR.mem (A := A2)) h) (fun hn2 => ?_)
      have hp1 : (fun A c L => Rds RA.cells 5 ⟨Tryd.prog, w.heap.size, w, 0, []⟩ [.row 24 5 A1 q1.length c1 (q1.flatMap RA.cells), .row 24 5 A2 q2.length c2 (q2.flatMap RA.cells)] A L ∧ L.length ≤ 20 ∧ (∀ y ∈ L, y.wf) ∧ (A = none → L = [] ∧ c = 0)) A1 c1 q1 := ⟨Rds.row (e := 24) (c := c1) (fun _ => rfl) (by simp), by omega, hw1, fun h => ⟨List.length_eq_zero_iff.1 (hn1 h).1, (hn1 h).2⟩⟩
      have hp2 : (fun A c L => Rds RA.cells 5 ⟨Tryd.prog, w.heap.size, w, 0, []⟩ [.row 24 5 A1 q1.length c1 (q1.flatMap RA.cells), .row 24 5 A2 q2.length c2 (q2.flatMap RA.cells)] A L ∧ L.length ≤ 20 ∧ (∀ y ∈ L, y.wf) ∧ (A = none → L = [] ∧ c = 0)) A2 c2 q2 := ⟨Rds.row (e := 24) (c := c2) (fun _ => rfl) (by simp), by omega, hw2, fun h => ⟨List.length_eq_zero_iff.1 (hn2 h).1, (hn2 h).2⟩⟩
      obtain ⟨A, c, L, hsel, hRd, hL20, hLwf, hLn⟩ := sel_ex (P := (fun A c L => Rds RA.cells 5 ⟨Tryd.prog, w.heap.size, w, 0, []⟩ [.row 24 5 A1 q1.length c1 (q1.flatMap RA.cells), .row 24 5 A2 q2.length c2 (q2.flatMap RA.cells)] A L ∧ L.length ≤ 20 ∧ (∀ y ∈ L, y.wf) ∧ (A = none → L = [] ∧ c = 0))) hp0 hp1 hp2 hi3
      refine cod_skip ?_
      refine ex_then ?_
      refine cod_seq ?_
      refine cod_block ?_
      refine cod_seq ?_
      refine cod_region ?_
      refine lst_move rfl rfl ?_
      refine lst_move rfl rfl ?_
      refine lst_index (j := i) rfl rfl rfl Tryd.underlying29 F.ti22 rfl hi3 ?_
      refine lst_load_at (v := .slice A L.length c) rfl rfl F.one22 (fun a w ha => cell_of_blk (ha.mem_blk (InB.mem (b := bS))) (by rw [Nat.zero_add, Nat.mul_one]; exact hsel)) ?_
      refine lst_fn (X := Option Addr × Nat) (vs := [_]) (p := fun _ => True) (val := fun y => .slice y.1 L.length y.2) (rs := fun y => [.row 24 5 y.1 L.length y.2 (L.flatMap RA.cells)]) rfl rfl F.ent24 (fun a w ha => (DupAgents_c ra_len ra_one A c L (by omega) w hLn (hRd _ _ _ _ _ ha rfl rfl rfl (fun r hr => by simp at hr; rcases hr with h | h <;> subst h <;> simp))).mono (fun e w' h => by obtain ⟨A', c', h1, h2⟩ := h; exact ⟨(A', c'), trivial, h1, h2⟩)) ?_
      rintro ⟨dA, dc⟩ -
      dsimp only [List.cons_append, List.nil_append]
      refine lst_assign rfl rfl ?_
      refine lst_nil ?_
      refine ex_then ?_
      refine cod_seq ?_
      refine cod_region ?_
      refine lst_move rfl rfl ?_
      refine lst_move rfl rfl ?_
      refine lst_call_pul (X := Nat × Nat) (vs := [_, _]) hb (fun y => hatO nA nums.length nc (t2 + 1) (y.1)) (fun y => y.1 < 18446744073709551616 ∧ y.2 ≤ (15 : Int).toNat) (fun y => .int .i64 (y.2 : Int)) rfl rfl F.ent25 (fun a w ha => (To_c (C := ⟨Tryd.prog, _, _, _, _⟩) rfl rfl hN (tk := t2) (st := s2) (n := 15) (by omega) hs2 (by omega) ha).mono (fun e w' h => by obtain ⟨s', x, h1, h2, h3, h4⟩ := h; exact ⟨(s', x), ⟨h1, h2⟩, h3, h4⟩)) ?_
      rintro ⟨s3, n0⟩ ⟨hs3, hn0⟩
      dsimp only at hs3 hn0 ⊢
      have hln0 : n0 ≤ 15 := by omega
      refine lst_move rfl rfl ?_
      refine lst_call_pul (X := Nat × Nat) (vs := [_, _]) hb (fun y => hatO nA nums.length nc ((t2 + 1) + 1) (y.1)) (fun y => y.1 < 18446744073709551616 ∧ y.2 ≤ (7 : Int).toNat) (fun y => .int .i64 (y.2 : Int)) rfl rfl F.ent25 (fun a w ha => (To_c (C := ⟨Tryd.prog, _, _, _, _⟩) rfl rfl hN (tk := (t2 + 1)) (st := s3) (n := 7) (by omega) hs3 (by omega) ha).mono (fun e w' h => by obtain ⟨s', x, h1, h2, h3, h4⟩ := h; exact ⟨(s', x), ⟨h1, h2⟩, h3, h4⟩)) ?_
      rintro ⟨s4, n1⟩ ⟨hs4, hn1⟩
      dsimp only at hs4 hn1 ⊢
      have hln1 : n1 ≤ 7 := by omega
      refine lst_lit (vs := [(0, _), (1, _), (2, _)]) rfl rfl Tryd.underlying25 F.ti3 rfl rfl rfl ?_
      intro b54
      refine lst_move rfl rfl ?_
      refine lst_move rfl rfl ?_
      refine lst_call_pul (X := Nat × Nat) (vs := [_, _]) hb (fun y => hatO nA nums.length nc ((t2 + 1 + 1) + 4 + 4) (y.1)) (fun y => y.1 < 18446744073709551616 ∧ y.2 < 64) (fun y => .int .i64 (y.2 : Int)) rfl rfl F.ent26 (fun a w ha => (PassOf_c (C := ⟨Tryd.prog, _, _, _, _⟩) rfl rfl hN (tk := (t2 + 1 + 1)) (st := s4) (few := 4) (by omega) hs4 (by omega) ha).mono (fun e w' h => by obtain ⟨s', x, h1, h2, h3, h4⟩ := h; exact ⟨(s', x), ⟨h1, h2⟩, h3, h4⟩)) ?_
      rintro ⟨s5, z0⟩ ⟨hs5, hz0⟩
      dsimp only at hs5 hz0 ⊢
      refine lst_move rfl rfl ?_
      refine lst_call_pul (X := Nat × Nat) (vs := [_, _]) hb (fun y => hatO nA nums.length nc ((t2 + 1 + 1 + 4 + 4) + 3 + 3) (y.1)) (fun y => y.1 < 18446744073709551616 ∧ y.2 < 64) (fun y => .int .i64 (y.2 : Int)) rfl rfl F.ent26 (fun a w ha => (PassOf_c (C := ⟨Tryd.prog, _, _, _, _⟩) rfl rfl hN (tk := (t2 + 1 + 1 + 4 + 4)) (st := s5) (few := 3) (by omega) hs5 (by omega) ha).mono (fun e w' h => by obtain ⟨s', x, h1, h2, h3, h4⟩ := h; exact ⟨(s', x), ⟨h1, h2⟩, h3, h4⟩)) ?_
      rintro ⟨s6, z1⟩ ⟨hs6, hz1⟩
      dsimp only at hs6 hz1 ⊢
      refine lst_lit (vs := [(0, _), (1, _), (2, _)]) rfl rfl Tryd.underlying25 F.ti3 rfl rfl rfl ?_
      intro b60
      refine lst_assign rfl rfl ?_
      refine lst_assign rfl rfl ?_
      refine lst_nil ?_
      refine ex_then ?_
      refine cod_seq ?_
      refine cod_region ?_
      refine lst_assign rfl rfl ?_
      refine lst_nil ?_
      refine ex_then ?_
      refine cod_block ?_
      refine cod_loop' (G := Nat) (fun g => g ≤ 3) (fun g => 3 - g) (fun g => [(2, .int .i64 melt), (3, .int .i64 pass), (11, .pointer (some ⟨hb, 0, none⟩)), (12, .slice (some ⟨bS, 0, none⟩) 3 3), (13, .int .i64 (i : Int)), (14, .slice dA L.length dc), (15, .slice (some ⟨b54, 0, none⟩) 3 3), (16, .slice (some ⟨b60, 0, none⟩) 3 3), (17, .int .i64 (g : Int))]) (fun g => .blk b60 (.cells [.int .i64 pass, .int .i64 (z0 : Int), .int .i64 (z1 : Int)].toArray 3 (0, 0)) :: .blk b54 (.cells [.int .i64 melt, .int .i64 (n0 : Int), .int .i64 (n1 : Int)].toArray 3 (0, 0)) :: .row 24 5 dA L.length dc (L.flatMap RA.cells) :: .blk hb (hatO nA nums.length nc ((t2 + 1 + 1 + 4 + 4 + 3 + 3)) (s6)) :: .blk bS (.cells [.slice A0 lag.length c0, .slice A1 q1.length c1, .slice A2 q2.length c2].toArray 22 (0, 0)) :: .row 24 5 A1 q1.length c1 (q1.flatMap RA.cells) :: .row 24 5 A2 q2.length c2 (q2.flatMap RA.cells) :: []) (0) (Nat.zero_le _) sbn pkk ?_
      rintro k hk
      (try dsimp only at hk ⊢)
      refine cod_seq ?_
      refine cod_seq ?_
      refine cod_region ?_
      refine lst_move rfl rfl ?_
      refine lst_move rfl rfl ?_
      refine lst_len rfl rfl Tryd.underlying25 ?_
      refine lst_int rfl rfl rfl bin_lss ?_
      refine lst_nil ?_
      refine ex_then ?_
      refine cod_cond_dec rfl (fun hc2 => ?_) (fun hc2 => ?_)
      · skip
        have hk3 : k < 3 := by omega
        obtain ⟨m, hmk⟩ := three_ex (l := melt) (m := (n0 : Int)) (n := (n1 : Int)) hk3
        obtain ⟨p, hpk⟩ := three_ex (l := pass) (m := (z0 : Int)) (n := (z1 : Int)) hk3
        refine cod_skip ?_
        refine ex_then ?_
        refine cod_seq ?_
        refine cod_block ?_
        refine cod_seq ?_
        refine cod_region ?_
        refine lst_move rfl rfl ?_
        refine lst_move rfl rfl ?_
        refine lst_move rfl rfl ?_
        refine lst_index (j := k) rfl rfl rfl Tryd.underlying25 F.ti3 rfl hk3 ?_
        refine lst_load_at (v := .int .i64 m) rfl rfl F.one3 (fun a w ha => cell_of_blk (ha.mem_blk (InB.mem (b := b54))) (by rw [Nat.zero_add, Nat.mul_one]; exact hmk)) ?_
        refine lst_fn (X := Option Addr × Nat) (vs := [_, _]) (p := fun _ => True) (val := fun y => .tuple #[.slice y.1 ((reaL L m)).length y.2, .int .i64 ((askedR L m 0 : Nat) : Int)]) (rs := fun y => [.row 3 1 y.1 ((reaL L m)).length y.2 (ints ((reaL L m)))]) rfl rfl F.ent59 (fun a w ha => (Reach_all dA dc L m w (row_reads ha (cells := RA.cells) (size := 5) (e := 24) (c := dc) (n := L.length) (fun _ => rfl) (InR.mem (A := dA)) rfl) (hR.later ha.below)).mono (fun e w' h => by obtain ⟨A', c', h1, h2⟩ := h; exact ⟨(A', c'), trivial, h1, h2⟩)) ?_
        rintro ⟨uA1, uc1⟩ -
        dsimp only [List.cons_append, List.nil_append]
        refine lst_move rfl rfl ?_
        refine lst_extract rfl rfl rfl ?_
        refine lst_extract rfl rfl rfl ?_
        refine lst_assign rfl rfl ?_
        refine lst_assign rfl rfl ?_
        refine lst_nil ?_
        refine ex_then ?_
        refine cod_seq ?_
        refine any_begin [] F.follows 14 rfl [false, false, false, false, false, false, false, false, false, false, false, false, false, false] rfl ?_
        refine any_tk 0 rfl rfl rfl (yld_move rfl) ?_
        refine any_tk 1 rfl rfl rfl (yld_move rfl) ?_
        refine any_tk 2 rfl rfl rfl (yld_index (j := i) rfl rfl Tryd.underlying29 F.ti22 rfl hi3) ?_
        refine any_tk 3 rfl rfl rfl (yld_load_at (v := .slice A L.length c) rfl F.one22 (fun a w ha => cell_of_blk (ha.mem_blk (InB.mem (b := bS))) (by rw [Nat.zero_add, Nat.mul_one]; exact hsel))) ?_
        refine any_tk 4 rfl rfl rfl (yld_move rfl) ?_
        refine any_tk 5 rfl rfl rfl (yld_move rfl) ?_
        refine any_tk 6 rfl rfl rfl (yld_index (j := k) rfl rfl Tryd.underlying25 F.ti3 rfl hk3) ?_
        refine any_tk 7 rfl rfl rfl (yld_load_at (v := .int .i64 m) rfl F.one3 (fun a w ha => cell_of_blk (ha.mem_blk (InB.mem (b := b54))) (by rw [Nat.zero_add, Nat.mul_one]; exact hmk))) ?_
        refine any_one 8 (by kernel_rfl) rfl rfl ?_
        refine lst_fn (X := Option Addr × Nat) (vs := [_, _]) (p := fun _ => True) (val := fun y => .tuple #[.slice y.1 ((reaL L m)).length y.2, .int .i64 ((askedR L m 0 : Nat) : Int)]) (rs := fun y => [.row 3 1 y.1 ((reaL L m)).length y.2 (ints ((reaL L m)))]) rfl rfl F.ent60 (fun a w ha => (rReach_all A c L m w (hRd _ _ _ _ _ ha rfl rfl rfl (fun r hr => by simp at hr; rcases hr with h | h <;> subst h <;> simp))).mono (fun e w' h => by obtain ⟨A', c', h1, h2⟩ := h; exact ⟨(A', c'), trivial, h1, h2⟩)) ?_
        rintro ⟨uA2, uc2⟩ -
        dsimp only [List.cons_append, List.nil_append]
        refine lst_nil ?_
        refine any_next sbl ?_
        refine any_tk 9 rfl rfl rfl (yld_move rfl) ?_
        refine any_tk 10 rfl rfl rfl (yld_extract rfl rfl) ?_
        refine any_tk 11 rfl rfl rfl (yld_extract rfl rfl) ?_
        refine any_tk 12 rfl rfl rfl (yld_assign rfl) ?_
        refine any_tk 13 rfl rfl rfl (yld_assign rfl) ?_
        refine any_done rfl (by kernel_rfl) ?_
        refine ex_then ?_
        refine cod_seq ?_
        refine any_begin [] F.follows 15 rfl [false, false, false, false, false, false, false, false, false, false, false, false, false, false, false] rfl ?_
        refine any_tk 0 rfl rfl rfl (yld_move rfl) ?_
        refine any_tk 1 rfl rfl rfl (yld_move rfl) ?_
        refine any_tk 2 rfl rfl rfl (yld_move rfl) ?_
        refine any_tk 3 rfl rfl rfl (yld_index (j := k) rfl rfl Tryd.underlying25 F.ti3 rfl hk3) ?_
        refine any_tk 4 rfl rfl rfl (yld_load_at (v := .int .i64 m) rfl F.one3 (fun a w ha => cell_of_blk (ha.mem_blk (InB.mem (b := b54))) (by rw [Nat.zero_add, Nat.mul_one]; exact hmk))) ?_
        refine any_tk 5 rfl rfl rfl (yld_move rfl) ?_
        refine any_tk 6 rfl rfl rfl (yld_move rfl) ?_
        refine any_tk 7 rfl rfl rfl (yld_index (j := k) rfl rfl Tryd.underlying25 F.ti3 rfl hk3) ?_
        refine any_tk 8 rfl rfl rfl (yld_load_at (v := .int .i64 p) rfl F.one3 (fun a w ha => cell_of_blk (ha.mem_blk (InB.mem (b := b60))) (by rw [Nat.zero_add, Nat.mul_one]; exact hpk))) ?_
        refine any_one 9 (by kernel_rfl) rfl rfl ?_
        refine lst_fn (X := Option Addr × Nat) (vs := [_, _, _]) (p := fun _ => True) (val := fun y => .tuple #[.slice y.1 ((twoR shoA L m p).1).length y.2, .int .i64 (((twoR shoA L m p).2 : Nat) : Int)]) (rs := fun y => [.row 3 1 y.1 ((twoR shoA L m p).1).length y.2 (ints ((twoR shoA L m p).1))]) rfl rfl F.ent53 (fun a w ha => (Shortest_all dA dc L m p w (row_reads ha (cells := RA.cells) (size := 5) (e := 24) (c := dc) (n := L.length) (fun _ => rfl) (InR.mem (A := dA)) rfl)).mono (fun e w' h => by obtain ⟨A', c', h1, h2⟩ := h; exact ⟨(A', c'), trivial, h1, h2⟩)) ?_
        rintro ⟨vA1, vc1⟩ -
        dsimp only [List.cons_append, List.nil_append]
        refine lst_nil ?_
        refine any_next sbl ?_
        refine any_tk 10 rfl rfl rfl (yld_move rfl) ?_
        refine any_tk 11 rfl rfl rfl (yld_extract rfl rfl) ?_
        refine any_tk 12 rfl rfl rfl (yld_extract rfl rfl) ?_
        refine any_tk 13 rfl rfl rfl (yld_assign rfl) ?_
        refine any_tk 14 rfl rfl rfl (yld_assign rfl) ?_
        refine any_done rfl (by kernel_rfl) ?_
        refine ex_then ?_
        refine cod_seq ?_
        refine any_begin [] F.follows 18 rfl [false, false, false, false, false, false, false, false, false, false, false, false, false, false, false, false, false, false] rfl ?_
        refine any_tk 0 rfl rfl rfl (yld_move rfl) ?_
        refine any_tk 1 rfl rfl rfl (yld_move rfl) ?_
        refine any_tk 2 rfl rfl rfl (yld_index (j := i) rfl rfl Tryd.underlying29 F.ti22 rfl hi3) ?_
        refine any_tk 3 rfl rfl rfl (yld_load_at (v := .slice A L.length c) rfl F.one22 (fun a w ha => cell_of_blk (ha.mem_blk (InB.mem (b := bS))) (by rw [Nat.zero_add, Nat.mul_one]; exact hsel))) ?_
        refine any_tk 4 rfl rfl rfl (yld_move rfl) ?_
        refine any_tk 5 rfl rfl rfl (yld_move rfl) ?_
        refine any_tk 6 rfl rfl rfl (yld_index (j := k) rfl rfl Tryd.underlying25 F.ti3 rfl hk3) ?_
        refine any_tk 7 rfl rfl rfl (yld_load_at (v := .int .i64 m) rfl F.one3 (fun a w ha => cell_of_blk (ha.mem_blk (InB.mem (b := b54))) (by rw [Nat.zero_add, Nat.mul_one]; exact hmk))) ?_
        refine any_tk 8 rfl rfl rfl (yld_move rfl) ?_
        refine any_tk 9 rfl rfl rfl (yld_move rfl) ?_
        refine any_tk 10 rfl rfl rfl (yld_index (j := k) rfl rfl Tryd.underlying25 F.ti3 rfl hk3) ?_
        refine any_tk 11 rfl rfl rfl (yld_load_at (v := .int .i64 p) rfl F.one3 (fun a w ha => cell_of_blk (ha.mem_blk (InB.mem (b := b60))) (by rw [Nat.zero_add, Nat.mul_one]; exact hpk))) ?_
        refine any_one 12 (by kernel_rfl) rfl rfl ?_
        refine lst_fn (X := Option Addr × Nat) (vs := [_, _, _]) (p := fun _ => True) (val := fun y => .tuple #[.slice y.1 ((twoR shoA L m p).1).length y.2, .int .i64 (((twoR shoA L m p).2 : Nat) : Int)]) (rs := fun y => [.row 3 1 y.1 ((twoR shoA L m p).1).length y.2 (ints ((twoR shoA L m p).1))]) rfl rfl F.ent61 (fun a w ha => (rShortest_all A c L m p w (hRd _ _ _ _ _ ha rfl rfl rfl (fun r hr => by simp at hr; rcases hr with h | h <;> subst h <;> simp))).mono (fun e w' h => by obtain ⟨A', c', h1, h2⟩ := h; exact ⟨(A', c'), trivial, h1, h2⟩)) ?_
        rintro ⟨vA2, vc2⟩ -
        dsimp only [List.cons_append, List.nil_append]
        refine lst_nil ?_
        refine any_next sbl ?_
        refine any_tk 13 rfl rfl rfl (yld_move rfl) ?_
        refine any_tk 14 rfl rfl rfl (yld_extract rfl rfl) ?_
        refine any_tk 15 rfl rfl rfl (yld_extract rfl rfl) ?_
        refine any_tk 16 rfl rfl rfl (yld_assign rfl) ?_
        refine any_tk 17 rfl rfl rfl (yld_assign rfl) ?_
        refine any_done rfl (by kernel_rfl) ?_
        refine ex_then ?_
        refine cod_seq ?_
        refine cod_seq ?_
        refine cod_region ?_
        refine lst_move rfl rfl ?_
        refine lst_move rfl rfl ?_
        refine lst_int (v := .bool false) rfl rfl rfl (fun w => by rw [bin_neq]; simp) ?_
        refine lst_move rfl rfl ?_
        refine lst_on rfl rfl ?_
        refine lst_move rfl rfl ?_
        refine lst_on rfl rfl ?_
        refine lst_move rfl rfl ?_
        refine lst_on rfl rfl ?_
        refine lst_int (v := .bool false) rfl rfl rfl (fun w => by rw [bin_neq]; simp) ?_
        refine lst_pick_false rfl rfl rfl ?_
        refine lst_move rfl rfl ?_
        refine lst_on rfl rfl ?_
        refine lst_move rfl rfl ?_
        refine lst_on rfl rfl ?_
        refine lst_move rfl rfl ?_
        refine lst_on rfl rfl ?_
        refine lst_fn0 (v := .bool true) (vs := [_, _]) rfl rfl F.ent32 (fun a w ha => by
          have h := eqInts_c uA1 uA2 uc1 uc2 (castL ((reaL L m))) (castL ((reaL L m))) (by rw [castL_len]; exact (Nat.le_trans (reaL_le L m) (by omega))) w (RdL.cast (row_reads ha (cells := ncell) (size := 1) (e := 3) (c := uc1) (n := ((reaL L m)).length) (fun _ => rfl) (by rw [← ints_flat]; exact InR.mem (A := uA1)) rfl)) (RdL.cast (row_reads ha (cells := ncell) (size := 1) (e := 3) (c := uc2) (n := ((reaL L m)).length) (fun _ => rfl) (by rw [← ints_flat]; exact InR.mem (A := uA2)) rfl))
          rw [castL_len] at h
          exact h.mono (fun e w' h => ⟨h.1.trans (by simp), h.2⟩)) ?_
        refine lst_on rfl rfl ?_
        refine lst_not rfl rfl ?_
        refine lst_pick_false rfl rfl rfl ?_
        refine lst_move rfl rfl ?_
        refine lst_on rfl rfl ?_
        refine lst_move rfl rfl ?_
        refine lst_on rfl rfl ?_
        refine lst_move rfl rfl ?_
        refine lst_on rfl rfl ?_
        refine lst_fn0 (v := .bool true) (vs := [_, _]) rfl rfl F.ent32 (fun a w ha => by
          have h := eqInts_c vA1 vA2 vc1 vc2 (castL ((twoR shoA L m p).1)) (castL ((twoR shoA L m p).1)) (by rw [castL_len]; exact (Nat.le_trans (sho_le L m p) (by omega))) w (RdL.cast (row_reads ha (cells := ncell) (size := 1) (e := 3) (c := vc1) (n := ((twoR shoA L m p).1).length) (fun _ => rfl) (by rw [← ints_flat]; exact InR.mem (A := vA1)) rfl)) (RdL.cast (row_reads ha (cells := ncell) (size := 1) (e := 3) (c := vc2) (n := ((twoR shoA L m p).1).length) (fun _ => rfl) (by rw [← ints_flat]; exact InR.mem (A := vA2)) rfl))
          rw [castL_len] at h
          exact h.mono (fun e w' h => ⟨h.1.trans (by simp), h.2⟩)) ?_
        refine lst_on rfl rfl ?_
        refine lst_not rfl rfl ?_
        refine lst_pick_false rfl rfl rfl ?_
        refine lst_nil ?_
        refine ex_then ?_
        refine cod_cond_false rfl ?_
        refine cod_skip ?_
        refine ex_then ?_
        refine cod_seq ?_
        refine any_begin [] F.follows 17 rfl [false, false, false, false, false, false, false, false, false, false, false, false, false, false, false, false, false] rfl ?_
        refine any_tk 0 rfl rfl rfl (yld_move rfl) ?_
        refine any_tk 1 rfl rfl rfl (yld_move rfl) ?_
        refine any_tk 2 rfl rfl rfl (yld_move rfl) ?_
        refine any_tk 3 rfl rfl rfl (yld_index (j := k) rfl rfl Tryd.underlying25 F.ti3 rfl hk3) ?_
        refine any_tk 4 rfl rfl rfl (yld_load_at (v := .int .i64 m) rfl F.one3 (fun a w ha => cell_of_blk (ha.mem_blk (InB.mem (b := b54))) (by rw [Nat.zero_add, Nat.mul_one]; exact hmk))) ?_
        refine any_tk 5 rfl rfl rfl (yld_move rfl) ?_
        refine any_tk 6 rfl rfl rfl (yld_move rfl) ?_
        refine any_tk 7 rfl rfl rfl (yld_index (j := k) rfl rfl Tryd.underlying25 F.ti3 rfl hk3) ?_
        refine any_tk 8 rfl rfl rfl (yld_load_at (v := .int .i64 p) rfl F.one3 (fun a w ha => cell_of_blk (ha.mem_blk (InB.mem (b := b60))) (by rw [Nat.zero_add, Nat.mul_one]; exact hpk))) ?_
        refine any_one 9 (by kernel_rfl) rfl rfl ?_
        refine lst_fn (X := Option Addr × Nat) (vs := [_, _, _]) (p := fun _ => True) (val := fun y => .tuple #[.slice y.1 ((cheR L m p).1).length y.2, .int .i64 (((cheR L m p).2.1 : Nat) : Int), .int .i64 (((cheR L m p).2.2 : Nat) : Int)]) (rs := fun y => [.row 3 1 y.1 ((cheR L m p).1).length y.2 (ints ((cheR L m p).1))]) rfl rfl F.ent35 (fun a w ha => (Cheapest_all dA dc L m p w (row_reads ha (cells := RA.cells) (size := 5) (e := 24) (c := dc) (n := L.length) (fun _ => rfl) (InR.mem (A := dA)) rfl)).mono (fun e w' h => by obtain ⟨A', c', h1, h2⟩ := h; exact ⟨(A', c'), trivial, h1, h2⟩)) ?_
        rintro ⟨xA1, xc1⟩ -
        dsimp only [List.cons_append, List.nil_append]
        refine lst_nil ?_
        refine any_next sbl ?_
        refine any_tk 10 rfl rfl rfl (yld_move rfl) ?_
        refine any_tk 11 rfl rfl rfl (yld_extract rfl rfl) ?_
        refine any_tk 12 rfl rfl rfl (yld_extract rfl rfl) ?_
        refine any_tk 13 rfl rfl rfl (yld_extract rfl rfl) ?_
        refine any_tk 14 rfl rfl rfl (yld_assign rfl) ?_
        refine any_tk 15 rfl rfl rfl (yld_assign rfl) ?_
        refine any_tk 16 rfl rfl rfl (yld_assign rfl) ?_
        refine any_done rfl (by kernel_rfl) ?_
        refine ex_then ?_
        refine cod_seq ?_
        refine any_begin [] F.follows 20 rfl [false, false, false, false, false, false, false, false, false, false, false, false, false, false, false, false, false, false, false, false] rfl ?_
        refine any_tk 0 rfl rfl rfl (yld_move rfl) ?_
        refine any_tk 1 rfl rfl rfl (yld_move rfl) ?_
        refine any_tk 2 rfl rfl rfl (yld_index (j := i) rfl rfl Tryd.underlying29 F.ti22 rfl hi3) ?_
        refine any_tk 3 rfl rfl rfl (yld_load_at (v := .slice A L.length c) rfl F.one22 (fun a w ha => cell_of_blk (ha.mem_blk (InB.mem (b := bS))) (by rw [Nat.zero_add, Nat.mul_one]; exact hsel))) ?_
        refine any_tk 4 rfl rfl rfl (yld_move rfl) ?_
        refine any_tk 5 rfl rfl rfl (yld_move rfl) ?_
        refine any_tk 6 rfl rfl rfl (yld_index (j := k) rfl rfl Tryd.underlying25 F.ti3 rfl hk3) ?_
        refine any_tk 7 rfl rfl rfl (yld_load_at (v := .int .i64 m) rfl F.one3 (fun a w ha => cell_of_blk (ha.mem_blk (InB.mem (b := b54))) (by rw [Nat.zero_add, Nat.mul_one]; exact hmk))) ?_
        refine any_tk 8 rfl rfl rfl (yld_move rfl) ?_
        refine any_tk 9 rfl rfl rfl (yld_move rfl) ?_
        refine any_tk 10 rfl rfl rfl (yld_index (j := k) rfl rfl Tryd.underlying25 F.ti3 rfl hk3) ?_
        refine any_tk 11 rfl rfl rfl (yld_load_at (v := .int .i64 p) rfl F.one3 (fun a w ha => cell_of_blk (ha.mem_blk (InB.mem (b := b60))) (by rw [Nat.zero_add, Nat.mul_one]; exact hpk))) ?_
        refine any_one 12 (by kernel_rfl) rfl rfl ?_
        refine lst_fn (X := Option Addr × Nat) (vs := [_, _, _]) (p := fun _ => True) (val := fun y => .tuple #[.slice y.1 ((cheR L m p).1).length y.2, .int .i64 (((cheR L m p).2.1 : Nat) : Int), .int .i64 (((cheR L m p).2.2 : Nat) : Int)]) (rs := fun y => [.row 3 1 y.1 ((cheR L m p).1).length y.2 (ints ((cheR L m p).1))]) rfl rfl F.ent62 (fun a w ha => (rCheapest_all A c L m p w (hRd _ _ _ _ _ ha rfl rfl rfl (fun r hr => by simp at hr; rcases hr with h | h <;> subst h <;> simp))).mono (fun e w' h => by obtain ⟨A', c', h1, h2⟩ := h; exact ⟨(A', c'), trivial, h1, h2⟩)) ?_
        rintro ⟨xA2, xc2⟩ -
        dsimp only [List.cons_append, List.nil_append]
        refine lst_nil ?_
        refine any_next sbl ?_
        refine any_tk 13 rfl rfl rfl (yld_move rfl) ?_
        refine any_tk 14 rfl rfl rfl (yld_extract rfl rfl) ?_
        refine any_tk 15 rfl rfl rfl (yld_extract rfl rfl) ?_
        refine any_tk 16 rfl rfl rfl (yld_extract rfl rfl) ?_
        refine any_tk 17 rfl rfl rfl (yld_assign rfl) ?_
        refine any_tk 18 rfl rfl rfl (yld_assign rfl) ?_
        refine any_tk 19 rfl rfl rfl (yld_assign rfl) ?_
        refine any_done rfl (by kernel_rfl) ?_
        refine ex_then ?_
        refine cod_seq ?_
        refine cod_region ?_
        refine lst_move rfl rfl ?_
        refine lst_move rfl rfl ?_
        refine lst_int (v := .bool false) rfl rfl rfl (fun w => by rw [bin_neq]; simp) ?_
        refine lst_move rfl rfl ?_
        refine lst_on rfl rfl ?_
        refine lst_move rfl rfl ?_
        refine lst_on rfl rfl ?_
        refine lst_move rfl rfl ?_
        refine lst_on rfl rfl ?_
        refine lst_int (v := .bool false) rfl rfl rfl (fun w => by rw [bin_neq]; simp) ?_
        refine lst_pick_false rfl rfl rfl ?_
        refine lst_move rfl rfl ?_
        refine lst_on rfl rfl ?_
        refine lst_move rfl rfl ?_
        refine lst_on rfl rfl ?_
        refine lst_move rfl rfl ?_
        refine lst_on rfl rfl ?_
        refine lst_fn0 (v := .bool true) (vs := [_, _]) rfl rfl F.ent32 (fun a w ha => by
          have h := eqInts_c xA1 xA2 xc1 xc2 (castL ((cheR L m p).1)) (castL ((cheR L m p).1)) (by rw [castL_len]; exact (Nat.le_trans (cheR_le L m p) (by omega))) w (RdL.cast (row_reads ha (cells := ncell) (size := 1) (e := 3) (c := xc1) (n := ((cheR L m p).1).length) (fun _ => rfl) (by rw [← ints_flat]; exact InR.mem (A := xA1)) rfl)) (RdL.cast (row_reads ha (cells := ncell) (size := 1) (e := 3) (c := xc2) (n := ((cheR L m p).1).length) (fun _ => rfl) (by rw [← ints_flat]; exact InR.mem (A := xA2)) rfl))
          rw [castL_len] at h
          exact h.mono (fun e w' h => ⟨h.1.trans (by simp), h.2⟩)) ?_
        refine lst_on rfl rfl ?_
        refine lst_not rfl rfl ?_
        refine lst_pick_false rfl rfl rfl ?_
        refine lst_move rfl rfl ?_
        refine lst_on rfl rfl ?_
        refine lst_move rfl rfl ?_
        refine lst_on rfl rfl ?_
        refine lst_move rfl rfl ?_
        refine lst_on rfl rfl ?_
        refine lst_move rfl rfl ?_
        refine lst_on rfl rfl ?_
        refine lst_index (j := i) rfl rfl rfl Tryd.underlying29 F.ti22 rfl hi3 ?_
        refine lst_on rfl rfl ?_
        refine lst_load_at (v := .slice A L.length c) rfl rfl F.one22 (fun a w ha => cell_of_blk (ha.mem_blk (InB.mem (b := bS))) (by rw [Nat.zero_add, Nat.mul_one]; exact hsel)) ?_
        refine lst_on rfl rfl ?_
        refine lst_fn0 (v := .bool true) (vs := [_, _]) rfl rfl F.ent33 (fun a w ha => EqAgents_c dA A dc c L (by omega) hLwf w (row_reads ha (cells := RA.cells) (size := 5) (e := 24) (c := dc) (n := L.length) (fun _ => rfl) (InR.mem (A := dA)) rfl) (hRd _ _ _ _ _ ha rfl rfl rfl (fun r hr => by simp at hr; rcases hr with h | h <;> subst h <;> simp))) ?_
        refine lst_on rfl rfl ?_
        refine lst_not rfl rfl ?_
        refine lst_pick_false rfl rfl rfl ?_
        refine lst_nil ?_
        refine ex_then ?_
        refine cod_cond_false rfl ?_
        refine cod_skip ?_
        refine ex_block_normal ?_
        refine ex_then ?_
        refine cod_region ?_
        refine lst_move rfl rfl ?_
        refine lst_int rfl rfl rfl (fun w => bin_add w (wrap_i64' _ (by omega) (by omega))) ?_
        refine lst_assign rfl rfl ?_
        refine lst_nil ?_
        refine ex_round' (k + 1) (by (try dsimp only); omega) (by (try dsimp only); omega) sbn pkk
      · skip
        refine cod_exit ?_
        refine ex_then_exit ?_
        refine ex_then_exit ?_
        refine ex_block_exit ?_
        refine ex_block_normal ?_
        refine ex_then ?_
        refine cod_region ?_
        refine lst_move rfl rfl ?_
        refine lst_int rfl rfl rfl (fun w => bin_add w (wrap_i64' _ (by omega) (by omega))) ?_
        refine lst_assign rfl rfl ?_
        refine lst_nil ?_
        refine ex_round' (i + 1, t2 + 1 + 1 + 4 + 4 + 3 + 3, s6) ⟨by (try dsimp only); omega, by (try dsimp only); omega, hs6⟩ (by (try dsimp only); omega) sbn pkk
    · skip
      refine cod_exit ?_
      refine ex_then_exit ?_
      refine ex_then_exit ?_
      refine ex_block_exit ?_
      refine ex_then ?_
      refine cod_seq ?_
      refine cod_region ?_
      refine lst_fn0 (vs := []) rfl rfl F.ent21 (fun a w ha => fined_c w) ?_
      refine lst_assign rfl rfl ?_
      refine lst_nil ?_
      refine ex_then ?_
      refine cod_ret ?_
      exact ex_ret rfl (fun a w ha => res_one rfl rfl ha) (fun a w ha => ⟨rfl, ha.grown (List.nil_sublist _)⟩)

end Go.Proofs.YtofkhehcnfiopaaDoor.N
/- What rows of laws about numbers share that start goroutines: the laid world, and the law from its call in company. -/
namespace Go.Proofs.YtofkhehcnfiopaaDoor.N
open Go Go.ChangeShapes Go.WideShapes Go.ChangeAt Go.RowKit Go.Proofs Go.Proofs.YtofkhehcnfiopaaDoor Go.Proofs.YtofkhehcnfiopaaDoor.Rows
set_option linter.unusedSectionVars false
theorem own_ : ownKnob Tryd.prog.godebug = Option.none := by kernel_rfl
theorem laidOut_ : laidOutB Tryd.prog = true := by kernel_rfl
theorem cells3_ : Tryd.prog.cellsOf 3 = 1 := by kernel_rfl
theorem und25_ : Tryd.prog.underlying 25 = some (.slice 3) := by kernel_rfl
theorem und3_ : Tryd.prog.underlying 3 = some (.int .i64) := by kernel_rfl
theorem und4_ : Tryd.prog.underlying 4 = some .bool := by kernel_rfl
theorem read25_ : Tryd.prog.readableRec 25 = true := by kernel_rfl
set_option maxRecDepth 100000 in
theorem size_ : 25 < Tryd.prog.types.size := of_decide_eq_true (by kernel_rfl)
def laidL : List (String × DataW Unit) := [("errors.errorType", laid_errors_errorType)]
/-- The settled world, with the one listed variable laid. -/
noncomputable def laidWorld (os : Os) : World :=
  let w0 := World.holding Tryd.prog os ⟨#[], #[], []⟩
  { w0 with heap := w0.heap.modify 0 fun
      | .cells _ t frozen => .cells #[.iface 166 (.agg #[.pointer (some ⟨1, 107, Option.none⟩)])] t frozen
      | o => o }
theorem laidWorld_met (os : Os) (args : Array Value) : laidMetH Tryd.prog laidL ((laidWorld os).forCall (fun _ _ => 0) ⟨#[], args, []⟩).memory :=
  laidMetH_of_parts (laidMet_nil _ _) (by kernel_rfl)
theorem rdl_seen {α : Type} {cells : α → List Value} {size : Nat} {W : World} {A : Option Addr} {l : List α} (h : RdL cells size W A l) : RdL cells size (seenW W) A l := fun hl => by
  obtain ⟨b, o, h1, h2, h3⟩ := h hl
  exact ⟨b, o, h1, by simpa [seenW] using h2, fun k x hk j u hu => cell_seenW (h3 k x hk j u hu)⟩
theorem rdy_seen (W : World) : @Rdy (mSys Tryd.prog (Kf W.heap.size)) (rea_main W.heap.size) (seenW W) := ⟨by show W.heap.size ≤ (seenW W).heap.size; simp [seenW], rfl⟩
/-! What the listed variable holds. -/
/-! The program's order of start-up, letter by letter: what is said of it is then soon shown. -/
def orderN : List Nat := [104, 97, 114, 110, 101, 115, 115, 32, 52, 51, 55, 51, 50, 49, 102, 55, 48, 48, 50, 49, 100, 55, 53, 49, 98, 55, 102, 54, 57, 52, 102, 101, 54, 102, 52, 54, 99, 48, 98, 99, 101, 56, 49, 49, 56, 98, 100, 51, 55, 102, 52, 101, 52, 49, 49, 99, 97, 53, 99, 100, 55, 50, 51, 98, 48, 101, 48, 53, 57, 50, 100, 98, 32, 99, 117, 116, 32, 97, 116, 32, 109, 117, 115, 99, 111, 118, 97, 100, 111, 47, 109, 117, 115, 99, 111, 118, 97, 100, 111, 108, 97, 119, 48, 57, 46, 70, 105, 110, 105, 110, 103, 66, 111, 116, 104, 115, 32, 109, 117, 115, 99, 111, 118, 97, 100, 111, 47, 109, 117, 115, 99, 111, 118, 97, 100, 111, 108, 97, 119, 48, 57, 46, 70, 105, 110, 105, 110, 103, 67, 104, 101, 97, 112, 101, 115, 116, 32, 109, 117, 115, 99, 111, 118, 97, 100, 111, 47, 109, 117, 115, 99, 111, 118, 97, 100, 111, 108, 97, 119, 48, 57, 46, 70, 105, 110, 105, 110, 103, 66, 111, 116, 104, 32, 109, 117, 115, 99, 111, 118, 97, 100, 111, 47, 109, 117, 115, 99, 111, 118, 97, 100, 111, 108, 97, 119, 48, 57, 46, 70, 105, 110, 105, 110, 103, 84, 101, 108, 108, 115, 32, 109, 117, 115, 99, 111, 118, 97, 100, 111, 47, 109, 117, 115, 99, 111, 118, 97, 100, 111, 108, 97, 119, 48, 57, 46, 70, 105, 110, 105, 110, 103, 80, 117, 116, 32, 109, 117, 115, 99, 111, 118, 97, 100, 111, 47, 109, 117, 115, 99, 111, 118, 97, 100, 111, 108, 97, 119, 48, 57, 46, 70, 105, 110, 105, 110, 103, 80, 117, 116, 115, 32, 109, 117, 115, 99, 111, 118, 97, 100, 111, 47, 109, 117, 115, 99, 111, 118, 97, 100, 111, 108, 97, 119, 48, 57, 46, 70, 105, 110, 105, 110, 103, 77, 111, 114, 101, 32, 109, 117, 115, 99, 111, 118, 97, 100, 111, 47, 109, 117, 115, 99, 111, 118, 97, 100, 111, 108, 97, 119, 48, 57, 46, 70, 105, 110, 105, 110, 103, 78, 117, 109, 98, 101, 114, 101, 100, 32, 109, 117, 115, 99, 111, 118, 97, 100, 111, 47, 109, 117, 115, 99, 111, 118, 97, 100, 111, 108, 97, 119, 48, 57, 46, 70, 105, 110, 105, 110, 103, 78, 101, 101, 100, 115, 32, 109, 117, 115, 99, 111, 118, 97, 100, 111, 47, 109, 117, 115, 99, 111, 118, 97, 100, 111, 108, 97, 119, 48, 57, 46, 70, 105, 110, 105, 110, 103, 78, 101, 101, 100, 101, 100, 32, 109, 117, 115, 99, 111, 118, 97, 100, 111, 47, 109, 117, 115, 99, 111, 118, 97, 100, 111, 108, 97, 119, 48, 57, 46, 70, 105, 110, 105, 110, 103, 87, 97, 121, 115, 32, 109, 117, 115, 99, 111, 118, 97, 100, 111, 47, 109, 117, 115, 99, 111, 118, 97, 100, 111, 108, 97, 119, 48, 57, 46, 70, 105, 110, 105, 110, 103, 82, 101, 97, 99, 104, 32, 109, 117, 115, 99, 111, 118, 97, 100, 111, 47, 109, 117, 115, 99, 111, 118, 97, 100, 111, 108, 97, 119, 48, 57, 46, 70, 105, 110, 105, 110, 103, 83, 104, 111, 114, 116, 101, 115, 116, 32, 109, 117, 115, 99, 111, 118, 97, 100, 111, 47, 109, 117, 115, 99, 111, 118, 97, 100, 111, 108, 97, 119, 48, 57, 46, 70, 105, 110, 105, 110, 103, 72, 111, 112, 101, 108, 101, 115, 115, 32, 109, 117, 115, 99, 111, 118, 97, 100, 111, 47, 109, 117, 115, 99, 111, 118, 97, 100, 111, 108, 97, 119, 48, 57, 46, 70, 105, 110, 105, 110, 103, 70, 97, 117, 108, 116, 115, 32, 109, 117, 115, 99, 111, 118, 97, 100, 111, 47, 109, 117, 115, 99, 111, 118, 97, 100, 111, 108, 97, 119, 48, 57, 46, 70, 105, 110, 105, 110, 103, 72, 111, 112, 101, 115, 32, 109, 117, 115, 99, 111, 118, 97, 100, 111, 47, 109, 117, 115, 99, 111, 118, 97, 100, 111, 108, 97, 119, 48, 57, 46, 70, 105, 110, 105, 110, 103, 70, 101, 119, 101, 115, 116, 32, 109, 117, 115, 99, 111, 118, 97, 100, 111, 47, 109, 117, 115, 99, 111, 118, 97, 100, 111, 108, 97, 119, 48, 57, 46, 70, 105, 110, 105, 110, 103, 75, 110, 111, 119, 110]
def wordsN : List (List Nat) := [[104, 97, 114, 110, 101, 115, 115], [52, 51, 55, 51, 50, 49, 102, 55, 48, 48, 50, 49, 100, 55, 53, 49, 98, 55, 102, 54, 57, 52, 102, 101, 54, 102, 52, 54, 99, 48, 98, 99, 101, 56, 49, 49, 56, 98, 100, 51, 55, 102, 52, 101, 52, 49, 49, 99, 97, 53, 99, 100, 55, 50, 51, 98, 48, 101, 48, 53, 57, 50, 100, 98], [99, 117, 116], [97, 116], [109, 117, 115, 99, 111, 118, 97, 100, 111, 47, 109, 117, 115, 99, 111, 118, 97, 100, 111, 108, 97, 119, 48, 57, 46, 70, 105, 110, 105, 110, 103, 66, 111, 116, 104, 115], [109, 117, 115, 99, 111, 118, 97, 100, 111, 47, 109, 117, 115, 99, 111, 118, 97, 100, 111, 108, 97, 119, 48, 57, 46, 70, 105, 110, 105, 110, 103, 67, 104, 101, 97, 112, 101, 115, 116], [109, 117, 115, 99, 111, 118, 97, 100, 111, 47, 109, 117, 115, 99, 111, 118, 97, 100, 111, 108, 97, 119, 48, 57, 46, 70, 105, 110, 105, 110, 103, 66, 111, 116, 104], [109, 117, 115, 99, 111, 118, 97, 100, 111, 47, 109, 117, 115, 99, 111, 118, 97, 100, 111, 108, 97, 119, 48, 57, 46, 70, 105, 110, 105, 110, 103, 84, 101, 108, 108, 115], [109, 117, 115, 99, 111, 118, 97, 100, 111, 47, 109, 117, 115, 99, 111, 118, 97, 100, 111, 108, 97, 119, 48, 57, 46, 70, 105, 110, 105, 110, 103, 80, 117, 116], [109, 117, 115, 99, 111, 118, 97, 100, 111, 47, 109, 117, 115, 99, 111, 118, 97, 100, 111, 108, 97, 119, 48, 57, 46, 70, 105, 110, 105, 110, 103, 80, 117, 116, 115], [109, 117, 115, 99, 111, 118, 97, 100, 111, 47, 109, 117, 115, 99, 111, 118, 97, 100, 111, 108, 97, 119, 48, 57, 46, 70, 105, 110, 105, 110, 103, 77, 111, 114, 101], [109, 117, 115, 99, 111, 118, 97, 100, 111, 47, 109, 117, 115, 99, 111, 118, 97, 100, 111, 108, 97, 119, 48, 57, 46, 70, 105, 110, 105, 110, 103, 78, 117, 109, 98, 101, 114, 101, 100], [109, 117, 115, 99, 111, 118, 97, 100, 111, 47, 109, 117, 115, 99, 111, 118, 97, 100, 111, 108, 97, 119, 48, 57, 46, 70, 105, 110, 105, 110, 103, 78, 101, 101, 100, 115], [109, 117, 115, 99, 111, 118, 97, 100, 111, 47, 109, 117, 115, 99, 111, 118, 97, 100, 111, 108, 97, 119, 48, 57, 46, 70, 105, 110, 105, 110, 103, 78, 101, 101, 100, 101, 100], [109, 117, 115, 99, 111, 118, 97, 100, 111, 47, 109, 117, 115, 99, 111, 118, 97, 100, 111, 108, 97, 119, 48, 57, 46, 70, 105, 110, 105, 110, 103, 87, 97, 121, 115], [109, 117, 115, 99, 111, 118, 97, 100, 111, 47, 109, 117, 115, 99, 111, 118, 97, 100, 111, 108, 97, 119, 48, 57, 46, 70, 105, 110, 105, 110, 103, 82, 101, 97, 99, 104], [109, 117, 115, 99, 111, 118, 97, 100, 111, 47, 109, 117, 115, 99, 111, 118, 97, 100, 111, 108, 97, 119, 48, 57, 46, 70, 105, 110, 105, 110, 103, 83, 104, 111, 114, 116, 101, 115, 116], [109, 117, 115, 99, 111, 118, 97, 100, 111, 47, 109, 117, 115, 99, 111, 118, 97, 100, 111, 108, 97, 119, 48, 57, 46, 70, 105, 110, 105, 110, 103, 72, 111, 112, 101, 108, 101, 115, 115], [109, 117, 115, 99, 111, 118, 97, 100, 111, 47, 109, 117, 115, 99, 111, 118, 97, 100, 111, 108, 97, 119, 48, 57, 46, 70, 105, 110, 105, 110, 103, 70, 97, 117, 108, 116, 115], [109, 117, 115, 99, 111, 118, 97, 100, 111, 47, 109, 117, 115, 99, 111, 118, 97, 100, 111, 108, 97, 119, 48, 57, 46, 70, 105, 110, 105, 110, 103, 72, 111, 112, 101, 115], [109, 117, 115, 99, 111, 118, 97, 100, 111, 47, 109, 117, 115, 99, 111, 118, 97, 100, 111, 108, 97, 119, 48, 57, 46, 70, 105, 110, 105, 110, 103, 70, 101, 119, 101, 115, 116], [109, 117, 115, 99, 111, 118, 97, 100, 111, 47, 109, 117, 115, 99, 111, 118, 97, 100, 111, 108, 97, 119, 48, 57, 46, 70, 105, 110, 105, 110, 103, 75, 110, 111, 119, 110]]
set_option maxRecDepth 100000 in
theorem order_ : Tryd.prog.initOrder = String.ofList (orderN.map Char.ofNat) := by kernel_rfl
theorem orderL_ : Tryd.prog.initOrder.toList = orderN.map Char.ofNat := by rw [order_, String.toList_ofList]
def wordN (k : Nat) : List Char := (wordsN.getD k []).map Char.ofNat
def wordR : List (List Char) := (wordsN.drop 3).map (·.map Char.ofNat)
set_option maxRecDepth 100000 in
theorem words0_ : wordsSigns Tryd.prog.initOrder.toList = wordN 0 :: wordN 1 :: wordN 2 :: wordR := by
  rw [orderL_]
  kernel_rfl
theorem behind_of {a b : List Char} {r : List (List Char)} (h1 : (a == "harness".toList || a == "ownmain".toList) = true) (h2 : isSumSigns b = true) : behindMainWord (a :: b :: r) = r := by
  unfold behindMainWord
  dsimp only
  rw [h1, h2]
  rfl
theorem words_ : behindMainWord (wordsSigns Tryd.prog.initOrder.toList) = wordN 2 :: wordR := by
  rw [words0_]
  exact behind_of (by kernel_rfl) (by kernel_rfl)
theorem make_of {P : Program} {c : List Char} {rest : List (List Char)} (h : behindMainWord (wordsSigns P.initOrder.toList) = c :: rest) (h1 : (c == "gc".toList || c == "spec".toList) = false) (h2 : (c == "cut".toList) = true) : P.make = some .cut := by
  unfold Program.make
  rw [h]
  dsimp only
  rw [h1, h2]
  rfl
theorem may_of {P : Program} {c : List Char} {rest : List (List Char)} (h : behindMainWord (wordsSigns P.initOrder.toList) = c :: rest) (h1 : (stripLifts liftWords (c :: rest)).1 = []) (h2 : ((stripLifts liftWords (c :: rest)).2.head? == some "cut".toList) = true) (h3 : P.laysLater = false) (h4 : P.bearsReflect = false) (h5 : P.doorFits [] = true) : P.mayEnter = true := by
  unfold Program.mayEnter
  rw [h]
  dsimp only
  rw [h1, h2, h3, h4, h5]
  simp
theorem lifts_of {P : Program} {c : List Char} {rest : List (List Char)} (h : behindMainWord (wordsSigns P.initOrder.toList) = c :: rest) (h1 : (stripLifts liftWords (c :: rest)).1 = []) (h2 : (c == "carried".toList) = false) : P.liftsFinal = false := by
  have e : (some c == some "carried".toList) = false := h2
  unfold Program.liftsFinal Program.headLifts
  dsimp only
  rw [h, h1, List.head?_cons, e]
  simp
theorem main_of {P : Program} {a b : List Char} {r : List (List Char)} {s : String} (h : wordsSigns P.initOrder.toList = a :: b :: r) (h1 : isSumSigns b = true) (h2 : (a == "harness".toList) = true) (h3 : s = String.ofList b) : P.mainIs = some (true, s.toList) := by
  unfold Program.mainIs
  rw [h]
  dsimp only
  rw [h1, h2, h3]
  simp [String.toList_ofList]
theorem word_lifts : (stripLifts liftWords (wordN 2 :: wordR)).1 = [] := by kernel_rfl
set_option maxRecDepth 100000 in
theorem make_ : Tryd.prog.make = some .cut := make_of words_ (by kernel_rfl) (by kernel_rfl)
set_option maxRecDepth 100000 in
theorem lifts_ : Tryd.prog.liftsFinal = false := lifts_of words_ word_lifts (by kernel_rfl)
set_option maxRecDepth 100000 in
theorem main_ : Tryd.prog.mainIs = some (true, "437321f70021d751b7f694fe6f46c0bce8118bd37f4e411ca5cd723b0e0592db".toList) := main_of words0_ (by kernel_rfl) (by kernel_rfl) (by kernel_rfl)
set_option maxRecDepth 100000 in
theorem laysLater_ : Tryd.prog.laysLater = false := by kernel_rfl
set_option maxRecDepth 100000 in
theorem bearsReflect_ : Tryd.prog.bearsReflect = false := by kernel_rfl
set_option maxRecDepth 100000 in
theorem door_ : Tryd.prog.doorFits [] = true := by kernel_rfl
set_option maxRecDepth 100000 in
theorem may_ : Tryd.prog.mayEnter = true := may_of words_ word_lifts (by kernel_rfl) laysLater_ bearsReflect_ door_
set_option maxRecDepth 100000 in
theorem mapsRowed_ : mapsRowed Tryd.prog = true := by kernel_rfl
set_option maxRecDepth 100000 in
theorem plainKeys_ : Tryd.prog.plainKeys = false := by kernel_rfl
set_option maxRecDepth 100000 in
theorem stopsHeard_ : Tryd.prog.stopsHeard = true := by kernel_rfl
set_option maxRecDepth 100000 in
theorem looks_ : Tryd.prog.looks [] = true := by kernel_rfl
/-- A tied card whose calls can start goroutines. -/
theorem holds_tied_goes (Lk : Looks) {p : Pinned} {s : OpenSpec} {c : OpenClaim} (kinds : List LaidKind) (tests : Bool) (har : Bool × String) (lk g : Bool)
    (hc : c.holds p s) (hw : c.wfByText s = true) (htie : c.laidByTextAt Lk p kinds tests)
    (hst : c.start = .entering) (hnb : c.noBlocks = false ∧ c.again = false) (hm : p.checked.prog.mainIs = some (har.1, har.2.toList)) (hn : (!har.1 && har.2.isEmpty && !lk) = false)
    (hl : ∀ f fn, p.checked.prog.funcNamed c.func = some f → p.checked.prog.funcs[f]? = some fn → lk = p.checked.prog.looks [] ∧ ∀ (j : Nat) t, fn.params[j]? = some t → p.checked.prog.wantsStandIn t = false)
    (hg : g = c.goesBy p.checked.prog) :
    Claim7.holds p (.plain s) { stood := { row := c, standIns := [], harness := har, looks := lk }, kinds := [], alts := [], goes := g, laidByText := true, laidKinds := kinds, laidTests := tests, laidLooks := Lk } := by
  have h6 : ∀ r : OpenClaim, Claim7.isSixth { stood := { row := r, standIns := [], harness := har, looks := lk }, kinds := [] } = false := fun r => by simpa [Claim7.isSixth] using hn
  refine ⟨Claim7.tied_new_at Lk kinds tests (Claim7.new_of_sixth hc har lk hst hnb hm (h6 c) hl) hw, fun D hD => ?_, htie, (fun h => by cases h), hg⟩
  cases hD
end Go.Proofs.YtofkhehcnfiopaaDoor.N
/- What rows of laws about agents share: lists of numbers, agents and lists of agents out of what the statement lets the input be. -/
namespace Go.Proofs.YtofkhehcnfiopaaDoor.N
open Go Go.ChangeShapes Go.WideShapes Go.ChangeAt Go.RowKit Go.Proofs Go.Proofs.YtofkhehcnfiopaaDoor Go.Proofs.YtofkhehcnfiopaaDoor.Rows
set_option linter.unusedSectionVars false
theorem co24v : Tryd.prog.cellsOf 24 = 5 := by kernel_rfl
theorem trodAll_below {H : Type} {enc : TypeId × Value → H} {W W' : World} (hn : Below W.heap.size W W') : ∀ {ts : List TypeId} {vs : List Value} {ds : List (DataW H)} {ps : List MemPlace},
    (∀ t ∈ ts, Tryd.prog.readableRec t = true ∧ t < Tryd.prog.types.size) → DataW.TrodAll enc Tryd.prog W 0 (fun _ => true) true ts vs ds ps → (∀ x ∈ ps, x.block < W.heap.size) →
    DataW.TrodAll enc Tryd.prog W' 0 (fun b => decide (b < W.heap.size)) true ts vs ds ps
  | [], _, _, _, _, h, _ => by
    obtain ⟨rfl, rfl, rfl⟩ := trodAll_nil h
    exact trodAll_mk0
  | t :: ts, vs, ds, ps, hr, h, hlt => by
    obtain ⟨v, vs', d, ds', p, q, rfl, rfl, rfl, h1, h2⟩ := trodAll_cons h
    exact trodAll_cons_mk (Below.trod laidOut_ (hr t (by simp)).1 (hr t (by simp)).2 h1 hn (fun x hx => hlt x (List.mem_append_left _ hx))) (trodAll_below hn (fun u hu => hr u (by simp [hu])) h2 (fun x hx => hlt x (List.mem_append_right _ hx)))
set_option maxRecDepth 100000 in
/-- A law's answer out of its call. -/
theorem grown_postV {H : Type} {enc : TypeId × Value → H} {f : FuncId} {fn : Func} {s : ChangeSpec} (hr : fn.resultTypes = #[4]) (hs : s.vars = []) (hread : ∀ t ∈ fn.params.toList, Tryd.prog.readableRec t = true ∧ t < Tryd.prog.types.size)
    {W : World} {args : Array Value} {ds gs : List (DataW H)} {before : List MemPlace} (hfn : s.fn H ds = { results := [.lit (.bool true)], args := ds })
    (hW : DataW.Whole enc Tryd.prog fn.params.toList s.vars false W args.toList ds gs before)
    (hc : @Calls Tryd.prog (mSys Tryd.prog (Kf W.heap.size)) f args (seenW W) fun e w' => e = .returned (.bool true) ∧ Grew (seenW W) w' []) :
    ∃ K : Prot, K.low = W.heap.size ∧ @Calls Tryd.prog (mSys Tryd.prog K) f args (seenW W) fun e v' => ∃ x, e = .returned x ∧ Below (seenW W).heap.size (seenW W) v' ∧ ∀ W', Below W.heap.size W W' → s.post enc Tryd.prog fn false true false false W args x W' := by
  refine ⟨Kf W.heap.size, rfl, ?_⟩
  have hW' := hW
  obtain ⟨p, q, hA, hV, rfl, _, _⟩ := hW
  rw [hs] at hV
  obtain ⟨rfl, rfl⟩ := trodVars_none hV
  simp only [List.append_nil] at hW'
  refine @Calls.mono _ (mSys Tryd.prog (Kf W.heap.size)) _ _ _ _ _ hc fun e v' ⟨he, hg⟩ => ⟨_, he, hg.1, fun W' hb => ?_⟩
  refine ⟨_, _, _, [], p, [], hW', ?_, ?_, ?_, hb.frame _, fun h => Bool.noConfusion h⟩
  · rw [List.append_nil, hfn, hr]; exact trodAll_mk1 (shut_bool und4_ true)
  · rw [List.append_nil, hfn]; exact trodAll_below hb hread hA (fun x hx => hW'.lt x hx)
  · rw [List.append_nil, hfn, hs]; rfl
set_option maxRecDepth 100000 in
/-- A list of numbers. -/
theorem slice_ints {H : Type} {enc : TypeId × Value → H} {W : World} {base : Nat} {v : Value} {d : DataW H} {p : List MemPlace} (hok : Value.okWide Tryd.prog W .any base 25 v)
    (h : DataW.Trod enc Tryd.prog W 0 (fun _ => true) true 25 v d p) (hlt : ∀ x ∈ p, x.block < W.heap.size) :
    ∃ (A : Option Addr) (c : Nat) (l : List Int), v = .slice A l.length c ∧ RdL icell 1 W A l ∧ (A = Option.none → l = [] ∧ c = 0) := by
  obtain ⟨a0, len, cap, rfl⟩ := okWide_slice und25_ hok
  obtain ⟨fuel, hf⟩ := h
  rcases open_ints und25_ und3_ cells3_ hf with ⟨hcs, hx⟩ | ⟨a, len', cap', zs, hcs, _, hl, hm, hz, hx, hcell, hwz⟩
  · simp [Value.cells] at hcs
    obtain ⟨rfl, rfl, rfl⟩ := hcs
    exact ⟨_, _, [], rfl, fun h => absurd h (by simp), fun _ => ⟨rfl, rfl⟩⟩
  · simp [Value.cells] at hcs
    obtain ⟨rfl, rfl, rfl⟩ := hcs
    simp only [Prod.mk.injEq] at hx
    obtain ⟨rfl, rfl⟩ := hx
    simp only [if_true] at hz
    obtain ⟨b, off, spot⟩ := a
    have hlen : (zs.take len).length = len := by rw [List.length_take]; omega
    refine ⟨_, cap, zs.take len, by rw [hlen], fun hpos => ?_, fun h => by cases h⟩
    rw [hlen] at hpos
    have hspot : spot = Option.none := by simpa [Addr.add] using World.cell?_spot (hcell 0 (by omega))
    subst hspot
    refine ⟨b, off, rfl, hlt (.cell b off) (MemPlace.mem_row.2 ⟨0, by omega, by simp⟩), fun k x hk j u hu => ?_⟩
    rw [List.getElem?_take] at hk
    split at hk
    · rename_i hkl
      cases j with
      | zero =>
        simp [icell] at hu
        subst hu
        have := hcell k (by omega)
        rw [List.getD_eq_getElem?_getD, hk] at this
        rw [Nat.mul_one, Nat.add_zero]
        rw [add_plain] at this
        exact this
      | succ j => simp [icell] at hu
    · cases hk
set_option maxRecDepth 100000 in
/-- An agent. -/
theorem agent_cells {H : Type} {enc : TypeId × Value → H} {W : World} {fuel : Nat} {cs : List Value} {x : DataW H × List MemPlace} (h : DataW.trod enc Tryd.prog W 0 (fun _ => true) true fuel 24 cs = some x) :
    ∃ y : RA, y.wf ∧ cs = y.cells := by
  obtain ⟨xs, n, _, _, hcl, hxl, hf⟩ := DataW.trod_struct Tryd.underlying24 h
  rw [co24v] at hcl
  match cs, hcl with
  | [v0, v1, v2, v3, v4], _ =>
    have g : ∀ (i : Nat) (v : Value), ([v0, v1, v2, v3, v4] : List Value)[i]? = some v → i < 5 → ∃ m, v = .int .i64 m ∧ W64 m := by
      intro i v hi h5
      have key : ∀ x, DataW.trod enc Tryd.prog W 0 (fun _ => true) true n 3 [v] = some x → ∃ m, v = .int .i64 m ∧ W64 m := fun x hx => by
        obtain ⟨m, h1, _, h3⟩ := DataW.trod_int und3_ hx
        exact ⟨m, List.singleton_inj.1 h1, bounds_i64 h3⟩
      match i, h5 with
      | 0, _ =>
        have := hf 0 _ rfl
        simp [cells3_] at this hi
        subst hi
        exact key _ (this.trans (List.getElem?_eq_getElem (by simp [hxl])))
      | 1, _ =>
        have := hf 1 _ rfl
        simp [cells3_] at this hi
        subst hi
        exact key _ (this.trans (List.getElem?_eq_getElem (by simp [hxl])))
      | 2, _ =>
        have := hf 2 _ rfl
        simp [cells3_] at this hi
        subst hi
        exact key _ (this.trans (List.getElem?_eq_getElem (by simp [hxl])))
      | 3, _ =>
        have := hf 3 _ rfl
        simp [cells3_] at this hi
        subst hi
        exact key _ (this.trans (List.getElem?_eq_getElem (by simp [hxl])))
      | 4, _ =>
        have := hf 4 _ rfl
        simp [cells3_] at this hi
        subst hi
        exact key _ (this.trans (List.getElem?_eq_getElem (by simp [hxl])))
    obtain ⟨m0, rfl, w0⟩ := g 0 v0 rfl (by omega)
    obtain ⟨m1, rfl, w1⟩ := g 1 v1 rfl (by omega)
    obtain ⟨m2, rfl, w2⟩ := g 2 v2 rfl (by omega)
    obtain ⟨m3, rfl, w3⟩ := g 3 v3 rfl (by omega)
    obtain ⟨m4, rfl, w4⟩ := g 4 v4 rfl (by omega)
    exact ⟨⟨m0, m1, m2, m3, m4⟩, ⟨w0, w1, w2, w3, w4⟩, rfl⟩
set_option maxRecDepth 100000 in
theorem arg_agent {H : Type} {enc : TypeId × Value → H} {W : World} {base : Nat} {v : Value} {d : DataW H} {p : List MemPlace} (hok : Value.okWide Tryd.prog W .any base 24 v)
    (h : DataW.Trod enc Tryd.prog W 0 (fun _ => true) true 24 v d p) : ∃ y : RA, y.wf ∧ v = .agg y.cells.toArray := by
  obtain ⟨cs, rfl, _⟩ := okWide_struct Tryd.underlying24 hok
  obtain ⟨fuel, hf⟩ := h
  obtain ⟨y, hy, hc⟩ := agent_cells hf
  simp only [Value.cells] at hc
  exact ⟨y, hy, by rw [← hc]⟩
set_option maxRecDepth 100000 in
/-- A list of agents. -/
theorem slice_agents {H : Type} {enc : TypeId × Value → H} {W : World} {base : Nat} {v : Value} {d : DataW H} {p : List MemPlace} (hok : Value.okWide Tryd.prog W .any base 22 v)
    (h : DataW.Trod enc Tryd.prog W 0 (fun _ => true) true 22 v d p) (hlt : ∀ x ∈ p, x.block < W.heap.size) :
    ∃ (A : Option Addr) (c : Nat) (l : List RA), v = .slice A l.length c ∧ RdL RA.cells 5 W A l ∧ (∀ y ∈ l, y.wf) ∧ (A = Option.none → l = [] ∧ c = 0) := by
  obtain ⟨a0, len, cap, rfl⟩ := okWide_slice Tryd.underlying22 hok
  obtain ⟨fuel, hf⟩ := h
  rcases Go.Deep.open_slice Tryd.underlying22 hf with ⟨hcs, hx⟩ | ⟨a, len', cap', m, n, D, Pl, hcs, _, hl, hm, hmm, hx, hi⟩
  · simp [Value.cells] at hcs
    obtain ⟨rfl, rfl, rfl⟩ := hcs
    exact ⟨_, _, [], rfl, fun h => absurd h (by simp), fun y hy => (List.not_mem_nil hy).elim, fun _ => ⟨rfl, rfl⟩⟩
  · simp [Value.cells] at hcs
    obtain ⟨rfl, rfl, rfl⟩ := hcs
    simp only [Prod.mk.injEq] at hx
    obtain ⟨rfl, rfl⟩ := hx
    simp only [if_true] at hmm
    subst hmm
    rw [co24v] at hi
    obtain ⟨Y, hY⟩ := Go.Deep.choose_lt (α := RA) (p := fun i y => y.wf ∧ ∀ j u, y.cells[j]? = some u → W.cell? (a.add (i * 5 + j)) = some u) (fun i hlt' => by
      obtain ⟨cs', h1, h2⟩ := hi i hlt'
      obtain ⟨y, hy, rfl⟩ := agent_cells h2
      obtain ⟨_, _, h3⟩ := World.cells?_some h1
      refine ⟨y, hy, fun j u hu => ?_⟩
      have hj : j < 5 := by
        have := (List.getElem?_eq_some_iff.1 hu).1
        simpa [RA.cells] using this
      have := h3 j hj
      rw [hu, Go.Deep.add_add] at this
      exact this)
    have hlen : ((List.range len).map Y).length = len := by simp
    obtain ⟨b, off, spot⟩ := a
    refine ⟨_, m, (List.range len).map Y, by rw [hlen], fun hpos => ?_, fun y hy => ?_, fun h => by cases h⟩
    · rw [hlen] at hpos
      have hspot : spot = Option.none := by simpa [Addr.add] using World.cell?_spot ((hY 0 (by omega)).2 0 _ rfl)
      subst hspot
      refine ⟨b, off, rfl, hlt (.cell b off) (List.mem_append_left _ (MemPlace.mem_row.2 ⟨0, by rw [co24v]; omega, by simp⟩)), fun k x hk j u hu => ?_⟩
      rw [List.getElem?_map] at hk
      obtain ⟨i, h1, rfl⟩ := Option.map_eq_some_iff.1 hk
      obtain ⟨h2, h3⟩ := List.getElem?_eq_some_iff.1 h1
      rw [List.getElem_range] at h3
      subst h3
      rw [List.length_range] at h2
      have := (hY k (by omega)).2 j u hu
      rw [add_plain, ← Nat.add_assoc] at this
      exact this
    · obtain ⟨i, h1, rfl⟩ := List.mem_map.1 hy
      exact (hY i (by have := List.mem_range.1 h1; omega)).1
set_option maxRecDepth 100000 in
theorem read22_ : Tryd.prog.readableRec 22 = true ∧ 22 < Tryd.prog.types.size := ⟨by kernel_rfl, of_decide_eq_true (by kernel_rfl)⟩
set_option maxRecDepth 100000 in
theorem read24_ : Tryd.prog.readableRec 24 = true ∧ 24 < Tryd.prog.types.size := ⟨by kernel_rfl, of_decide_eq_true (by kernel_rfl)⟩
set_option maxRecDepth 100000 in
theorem read3_ : Tryd.prog.readableRec 3 = true ∧ 3 < Tryd.prog.types.size := ⟨by kernel_rfl, of_decide_eq_true (by kernel_rfl)⟩
theorem read25b_ : Tryd.prog.readableRec 25 = true ∧ 25 < Tryd.prog.types.size := ⟨read25_, size_⟩
end Go.Proofs.YtofkhehcnfiopaaDoor.N
