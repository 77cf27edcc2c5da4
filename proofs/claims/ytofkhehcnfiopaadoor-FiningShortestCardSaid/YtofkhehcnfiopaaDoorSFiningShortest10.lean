/- Parts of the walks of the laws on fining, those that FiningShortest needs: F63, RowV. -/
import Derived.Test.YtofkhehcnfiopaaDoorSFiningShortest09
import Derived.Test.YtofkhehcnfiopaaDoorProg
import Derived.Test.YtofkhehcnfiopaaDoorSFiningShortest08
import Derived.Test.YtofkhehcnfiopaaDoorSFiningShortest03
import Derived.Test.YtofkhehcnfiopaaDoorRows
import Derived.ChangeSame
import Derived.ChangeVars
import Derived.JoinedOf
import Derived.RowKit
import Derived.RowKitTokens
import Derived.LaidLaws
import Derived.LaidHandle
import Derived.Stop.Joined
import Derived.ProofKit
import Derived.SizedLaws
import Derived.OpenShut
import Derived.SevenTiedAt
import Derived.Conc.Holds
namespace Go.Proofs.YtofkhehcnfiopaaDoor.N
open Go Go.RowKit Go.Proofs
set_option linter.unusedSectionVars false
variable [I : Sys] [R : Rea]

theorem FiningShortest_c (nA : Option Addr) (nc : Nat) (nums : List Int) (w : World) (hN : RdL icell 1 w nA nums) (hR : Rdy w) : Calls Tryd.prog 15 #[.slice nA nums.length nc] w fun e w' => e = .returned (.bool true) ∧ Grew w w' [] := by
  refine enter (N := 160) [(0, .slice nA nums.length nc)] Tryd.func15 rfl Tryd.ntmps15 rfl rfl ?_
  refine cod_seq ?_
  refine cod_region ?_
  refine lst_assign rfl rfl ?_
  refine lst_nil ?_
  refine ex_then ?_
  refine cod_seq ?_
  refine cod_region ?_
  refine lst_move rfl rfl ?_
  refine lst_fn (X := Nat) (vs := [_]) (p := fun _ => True) (val := fun b => .pointer (some ⟨b, 0, none⟩)) (rs := fun b => [.blk b (hatO nA nums.length nc 0 11400714819323198485)]) rfl rfl F.ent22 (fun a w ha => (NewHat_c nA nums.length nc w).mono (fun e w' h => by obtain ⟨b, h1, h2⟩ := h; exact ⟨b, trivial, h1, h2⟩)) ?_
  intro hb _
  dsimp only [List.cons_append, List.nil_append]
  refine lst_assign rfl rfl ?_
  refine lst_nil ?_
  refine ex_then ?_
  refine cod_seq ?_
  refine cod_region ?_
  refine lst_move rfl rfl ?_
  refine lst_call (X := Nat × Nat × List Ag × Option Addr × Nat) (first := []) (cap := []) (vs := [_, _, _]) (p := fun y => y.1 ≤ 200 ∧ y.2.1 < 18446744073709551616 ∧ y.2.2.1.length ≤ 4 ∧ ∀ x ∈ y.2.2.1, x.ok) (val := fun y => .slice y.2.2.2.1 y.2.2.1.length y.2.2.2.2) (rs := fun y => .row 24 5 y.2.2.2.1 y.2.2.1.length y.2.2.2.2 (y.2.2.1.flatMap Ag.cells) :: .blk hb (hatO nA nums.length nc y.1 y.2.1) :: []) rfl rfl rfl F.ent34 (fun a w ha => (AgentsOf_c (C := ⟨Tryd.prog, _, _, _, _⟩) (T := []) (tk := 0) (many := 4) (few := 4) rfl rfl hN (by omega) (by omega) (by omega) (by omega) (by omega) ha).mono (fun e w' h => by obtain ⟨t', s', l, A', c', h1, h2, h3, h4, h5, h6⟩ := h; exact ⟨(t', s', l, A', c'), ⟨by omega, h2, h3, h4⟩, h5, h6⟩)) ?_
  rintro ⟨t1, s1, ags, aA, ac⟩ ⟨ht1, hs1, hagl, hago⟩
  dsimp only at ht1 hs1 hagl hago ⊢
  have hok : Oks ags := ⟨by omega, hago⟩
  refine lst_move rfl rfl ?_
  refine lst_call_pul (X := Nat × Nat) (vs := [_, _]) hb (fun y => hatO nA nums.length nc (t1 + 1) (y.1)) (fun y => y.1 < 18446744073709551616 ∧ y.2 ≤ (15 : Int).toNat) (fun y => .int .i64 (y.2 : Int)) rfl rfl F.ent25 (fun a w ha => (To_c (C := ⟨Tryd.prog, _, _, _, _⟩) rfl rfl hN (tk := t1) (st := s1) (n := 15) (by omega) hs1 (by omega) ha).mono (fun e w' h => by obtain ⟨s', x, h1, h2, h3, h4⟩ := h; exact ⟨(s', x), ⟨h1, h2⟩, h3, h4⟩)) ?_
  rintro ⟨s2, m1⟩ ⟨hs2, hm1⟩
  dsimp only at hs2 hm1 ⊢
  have hlm1 : m1 ≤ 15 := by omega
  refine lst_move rfl rfl ?_
  refine lst_call_pul (X := Nat × Nat) (vs := [_, _]) hb (fun y => hatO nA nums.length nc (t1 + 1 + 4 + 4) (y.1)) (fun y => y.1 < 18446744073709551616 ∧ y.2 < 64) (fun y => .int .i64 (y.2 : Int)) rfl rfl F.ent26 (fun a w ha => (PassOf_c (C := ⟨Tryd.prog, _, _, _, _⟩) rfl rfl hN (tk := t1 + 1) (st := s2) (few := 4) (by omega) hs2 (by omega) ha).mono (fun e w' h => by obtain ⟨s', x, h1, h2, h3, h4⟩ := h; exact ⟨(s', x), ⟨h1, h2⟩, h3, h4⟩)) ?_
  rintro ⟨s3, p⟩ ⟨hs3, hp⟩
  dsimp only at hs3 hp ⊢
  refine lst_assign rfl rfl ?_
  refine lst_assign rfl rfl ?_
  refine lst_assign rfl rfl ?_
  refine lst_nil ?_
  refine ex_then ?_
  refine cod_seq ?_
  refine cod_region ?_
  refine lst_move rfl rfl ?_
  refine lst_move rfl rfl ?_
  refine lst_move rfl rfl ?_
  refine lst_fn (X := Option Wk) (vs := [_, _, _]) (p := fun o => FoundO ags (usedAll ags.length) 1 (-1) (m1, 0, 0) (fun t => decide (nn t.1 p = 0)) o) (val := fun o => .tuple #[.slice (wayO o).A (wayO o).how.length (wayO o).c, .int .i64 (if o.isSome then 0 else 11)]) (rs := fun o => [.row 3 1 (wayO o).A (wayO o).how.length (wayO o).c (ints (wayO o).how)]) rfl rfl F.ent53 (fun a w ha => (Shortest_ok aA ac ags hok m1 p (by omega) hp w (row_reads ha (cells := Ag.cells) (size := 5) (e := 24) (c := ac) (n := ags.length) (fun _ => rfl) (InR.mem (A := aA)) rfl)).mono (fun e w' h => by obtain ⟨o, h1, h2, h3⟩ := h; exact ⟨o, h1, h2, h3⟩)) ?_
  intro o hfo
  dsimp only [List.cons_append, List.nil_append] at hfo ⊢
  refine lst_move rfl rfl ?_
  refine lst_extract rfl rfl rfl ?_
  refine lst_extract rfl rfl rfl ?_
  refine lst_assign rfl rfl ?_
  refine lst_assign rfl rfl ?_
  refine lst_nil ?_
  refine ex_then ?_
  refine cod_seq ?_
  refine cod_region ?_
  refine lst_move rfl rfl ?_
  refine lst_move rfl rfl ?_
  refine lst_fn (X := Option Addr × Nat) (vs := [_, _]) (p := fun _ => True) (val := fun y => .tuple #[.slice y.1 (rchL ags (m1)).length y.2, .int .i64 0]) (rs := fun y => [.row 3 1 y.1 (rchL ags (m1)).length y.2 (ints (rchL ags (m1)))]) rfl rfl F.ent59 (fun a w ha => (Reach_ok aA ac ags hok (m1) (by omega) w (row_reads ha (cells := Ag.cells) (size := 5) (e := 24) (c := ac) (n := ags.length) (fun _ => rfl) (InR.mem (A := aA)) rfl) (hR.later ha.below)).mono (fun e w' h => by obtain ⟨A', c', h1, h2⟩ := h; exact ⟨(A', c'), trivial, h1, h2⟩)) ?_
  rintro ⟨rA, rc⟩ -
  dsimp only [List.cons_append, List.nil_append]
  refine lst_move rfl rfl ?_
  refine lst_extract rfl rfl rfl ?_
  refine lst_extract rfl rfl rfl ?_
  refine lst_assign rfl rfl ?_
  refine lst_assign rfl rfl ?_
  have hm64 : m1 < 64 := by omega
  have hrl := rchL_len ags m1
  have hs63 := sho_63 hok hm64 hfo
  have h4 := hok.1
  refine lst_nil ?_
  refine ex_then ?_
  refine cod_seq ?_
  refine cod_seq ?_
  cases hso : o.isSome
  · skip
    refine cod_region ?_
    obtain rfl : o = none := by
      cases o with
      | none => rfl
      | some kk => cases hso
    have hclr : ¬ Clr ags (usedAll ags.length) p m1 := fun h => by have := (short_spec hfo).1.2 h; cases this
    refine lst_move rfl rfl ?_
    refine lst_int rfl rfl rfl bin_neq ?_
    refine lst_move rfl rfl ?_
    refine lst_on rfl rfl ?_
    refine lst_move rfl rfl ?_
    refine lst_on rfl rfl ?_
    refine lst_len rfl rfl Tryd.underlying25 ?_
    refine lst_on rfl rfl ?_
    refine lst_int (v := .bool false) rfl rfl rfl (fun w => by rw [bin_gtr, decide_eq_false (by omega)]) ?_
    refine lst_pick_false rfl rfl rfl ?_
    refine lst_move rfl rfl ?_
    refine lst_on rfl rfl ?_
    refine lst_move rfl rfl ?_
    refine lst_on rfl rfl ?_
    refine lst_int rfl rfl rfl bin_neq ?_
    refine lst_on rfl rfl ?_
    refine lst_move rfl rfl ?_
    refine lst_on rfl rfl ?_
    refine lst_move rfl rfl ?_
    refine lst_on rfl rfl ?_
    refine lst_int rfl rfl rfl bin_neq ?_
    refine lst_on rfl rfl ?_
    refine lst_pick_true rfl rfl rfl ?_
    refine lst_pick_false rfl rfl rfl ?_
    refine lst_move rfl rfl ?_
    refine lst_on rfl rfl ?_
    refine lst_move rfl rfl ?_
    refine lst_on rfl rfl ?_
    refine lst_len rfl rfl Tryd.underlying25 ?_
    refine lst_on rfl rfl ?_
    refine lst_int (v := .bool false) rfl rfl rfl (fun w => by rw [bin_gtr, decide_eq_false (by omega)]) ?_
    refine lst_pick_false rfl rfl rfl ?_
    refine lst_nil ?_
    refine ex_then ?_
    refine cod_cond_false rfl ?_
    refine cod_skip ?_
    refine ex_then ?_
    refine cod_seq ?_
    refine cod_region ?_
    refine lst_assign rfl rfl ?_
    refine lst_nil ?_
    refine ex_then ?_
    refine cod_seq ?_
    refine cod_seq ?_
    refine cod_region ?_
    refine lst_assign rfl rfl ?_
    refine lst_nil ?_
    refine ex_then ?_
    refine cod_block ?_
    refine cod_loop' (G := Nat) (fun g => g ≤ (rchL ags m1).length) (fun g => (rchL ags m1).length - g) (fun g => [(4, .slice aA ags.length ac), (5, .int .i64 (m1 : Int)), (6, .int .i64 (p : Int)), (7, .slice (wayO none).A (wayO none).how.length (wayO none).c), (11, .bool (anyC p ((rchL ags m1).take g))), (8, .int .i64 (if false = true then 0 else 11)), (9, .slice rA (rchL ags m1).length rc), (12, .int .i64 (g : Int))]) (fun g => .row 3 1 (wayO none).A (wayO none).how.length (wayO none).c (ints (wayO none).how) :: .row 3 1 rA (rchL ags m1).length rc (ints (rchL ags m1)) :: .row 24 5 aA ags.length ac (ags.flatMap Ag.cells) :: []) (0) (Nat.zero_le _) (by repeat (first | exact Sub.nil _ | refine Sub.cons rfl ?_)) (by repeat (first | exact Pck.nil _ | exact Pck.refl _ | (apply Pck.cons; focus ((repeat (first | exact Rem.here _ | apply Rem.there)); done)) | refine Pck.skip _ ?_)) ?_
    rintro q hql
    try dsimp only at hql ⊢
    refine cod_seq ?_
    refine cod_seq ?_
    refine cod_region ?_
    refine lst_move rfl rfl ?_
    refine lst_move rfl rfl ?_
    refine lst_len rfl rfl Tryd.underlying25 ?_
    refine lst_int rfl rfl rfl bin_lss ?_
    refine lst_nil ?_
    refine ex_then ?_
    refine cod_cond_dec rfl (fun hc1 => ?_) (fun hc1 => ?_)
    · skip
      have hq' : q < (rchL ags m1).length := by omega
      obtain ⟨y, hy⟩ : ∃ y, (rchL ags m1)[q]? = some y := ⟨_, List.getElem?_eq_getElem hq'⟩
      have hy64 : y < 64 := ((rchL_mem hok hm64).1 (List.mem_of_getElem? hy)).lt hok hm64
      refine cod_skip ?_
      refine ex_then ?_
      refine cod_seq ?_
      refine cod_block ?_
      refine cod_region ?_
      refine lst_cut1 9 75 (.bool (anyC p ((rchL ags m1).take q) || decide (nn y p = 0))) ?_ ?_
      · skip
        refine lst_move rfl rfl ?_
        refine lst_move rfl rfl ?_
        refine lst_split_bool (t := 68) rfl (fun hg68 => ?_) (fun hg68 => ?_)
        · skip
          refine lst_off rfl rfl rfl ?_
          refine lst_off rfl rfl rfl ?_
          refine lst_off rfl rfl rfl ?_
          refine lst_off rfl rfl rfl ?_
          refine lst_off rfl rfl rfl ?_
          refine lst_off rfl rfl rfl ?_
          refine lst_pick_true rfl rfl rfl ?_
          refine lst_nil ?_
          exact ex_cut (.cons (by simp_all [look]) (by repeat (first | exact Sub.nil _ | refine Sub.cons rfl ?_))) (by repeat (first | exact List.Sublist.refl _ | exact List.nil_sublist _ | refine List.Sublist.cons_cons _ ?_ | refine List.Sublist.cons _ ?_))
        · skip
          refine lst_on rfl rfl ?_
          refine lst_move rfl rfl ?_
          refine lst_on rfl rfl ?_
          refine lst_move rfl rfl ?_
          refine lst_on rfl rfl ?_
          refine lst_index_row (j := q) rfl rfl rfl Tryd.underlying25 F.ti3 rfl hq' rfl rfl ?_
          intro gm hgm
          refine lst_on rfl rfl ?_
          refine lst_load_row (v := .int .i64 (y : Int)) rfl rfl F.one3 hgm (ints_get hy) ?_
          refine lst_on rfl rfl ?_
          refine lst_move rfl rfl ?_
          refine lst_on rfl rfl ?_
          refine lst_fn0 (vs := [_, _]) rfl rfl F.ent37 (fun a w ha => Clear_c y p hy64 hp w) ?_
          refine lst_pick_false rfl rfl rfl ?_
          refine lst_nil ?_
          exact ex_cut (.cons (by simp_all [look]) (by repeat (first | exact Sub.nil _ | refine Sub.cons rfl ?_))) (by repeat (first | exact List.Sublist.refl _ | exact List.nil_sublist _ | refine List.Sublist.cons_cons _ ?_ | refine List.Sublist.cons _ ?_))
      refine lst_assign rfl rfl ?_
      refine lst_nil ?_
      refine ex_block_normal ?_
      refine ex_then ?_
      refine cod_region ?_
      refine lst_move rfl rfl ?_
      refine lst_int rfl rfl rfl (fun w => bin_add w (wrap_i64' _ (by omega) (by omega))) ?_
      refine lst_assign rfl rfl ?_
      refine lst_nil ?_
      refine ex_round' (q + 1) (by (try dsimp only); omega) (by (try dsimp only); omega) (by (try dsimp only); rw [anyC_take hy]; repeat (first | exact Sub.nil _ | refine Sub.cons rfl ?_)) (by repeat (first | exact Pck.nil _ | exact Pck.refl _ | (apply Pck.cons; focus ((repeat (first | exact Rem.here _ | apply Rem.there)); done)) | refine Pck.skip _ ?_))
    · skip
      obtain rfl : q = (rchL ags m1).length := by omega
      rw [List.take_length, anyC_no hok hm64 hclr]
      refine cod_exit ?_
      refine ex_then_exit ?_
      refine ex_then_exit ?_
      refine ex_block_exit ?_
      refine ex_then ?_
      refine cod_seq ?_
      refine cod_seq ?_
      refine cod_region ?_
      refine lst_move rfl rfl ?_
      refine lst_move rfl rfl ?_
      refine lst_int rfl rfl rfl bin_eql ?_
      refine lst_bin (v := .bool false) rfl rfl rfl (run_neq_bool Tryd.underlying4 _ _ _ _) ?_
      refine lst_move rfl rfl ?_
      refine lst_on rfl rfl ?_
      refine lst_move rfl rfl ?_
      refine lst_on rfl rfl ?_
      refine lst_not rfl rfl ?_
      refine lst_on rfl rfl ?_
      refine lst_move rfl rfl ?_
      refine lst_on rfl rfl ?_
      refine lst_move rfl rfl ?_
      refine lst_on rfl rfl ?_
      refine lst_len rfl rfl Tryd.underlying25 ?_
      refine lst_on rfl rfl ?_
      refine lst_int rfl rfl rfl bin_gtr ?_
      refine lst_on rfl rfl ?_
      refine lst_pick_true rfl rfl rfl ?_
      refine lst_pick_false rfl rfl rfl ?_
      refine lst_nil ?_
      refine ex_then ?_
      refine cod_cond_false rfl ?_
      refine cod_skip ?_
      refine ex_then ?_
      refine cod_seq ?_
      refine cod_region ?_
      refine lst_move rfl rfl ?_
      refine lst_move rfl rfl ?_
      refine lst_move rfl rfl ?_
      refine lst_fn0 (v := .tuple #[.int .i64 (followV (followN ags m1 (wayO none).how) : Int), .bool (followN ags m1 (wayO none).how).isSome]) (vs := [_, _, _]) rfl rfl F.ent36 (fun a w ha => follows_c aA (wayO none).A ac (wayO none).c m1 ags (wayO none).how hok hm64 (by omega) w (row_reads ha (cells := Ag.cells) (size := 5) (e := 24) (c := ac) (n := ags.length) (fun _ => rfl) (InR.mem (A := aA)) rfl) (row_reads ha (cells := ncell) (size := 1) (e := 3) (c := (wayO none).c) (n := (wayO none).how.length) (fun _ => rfl) (by rw [← ints_flat]; exact InR.mem (A := (wayO none).A)) rfl)) ?_
      refine lst_move rfl rfl ?_
      refine lst_extract rfl rfl rfl ?_
      refine lst_extract rfl rfl rfl ?_
      refine lst_assign rfl rfl ?_
      refine lst_assign rfl rfl ?_
      refine lst_nil ?_
      refine ex_then ?_
      refine cod_seq ?_
      refine cod_seq ?_
      refine cod_region ?_
      refine lst_move rfl rfl ?_
      refine lst_move rfl rfl ?_
      refine lst_off rfl rfl rfl ?_
      refine lst_off rfl rfl rfl ?_
      refine lst_off rfl rfl rfl ?_
      refine lst_offu rfl rfl rfl ?_
      refine lst_offu rfl rfl rfl ?_
      refine lst_offu rfl rfl rfl ?_
      refine lst_offu rfl rfl rfl ?_
      refine lst_off rfl rfl rfl ?_
      refine lst_pick_false rfl rfl rfl ?_
      refine lst_nil ?_
      refine ex_then ?_
      refine cod_cond_false rfl ?_
      refine cod_skip ?_
      refine ex_then ?_
      refine cod_seq ?_
      refine cod_seq ?_
      refine cod_region ?_
      refine lst_assign rfl rfl ?_
      refine lst_nil ?_
      refine ex_then ?_
      refine cod_block ?_
      refine cod_loop' (G := Nat) (fun g => g ≤ 5 ∧ ∀ u, Wd ags.length u → u.length < g → clr1 ags m1 p u = false) (fun g => 6 - g) (fun g => [(4, .slice aA ags.length ac), (5, .int .i64 (m1 : Int)), (6, .int .i64 (p : Int)), (7, .slice (wayO none).A (wayO none).how.length (wayO none).c), (11, .bool false), (15, .int .i64 (g : Int))]) (fun g => .row 3 1 (wayO none).A (wayO none).how.length (wayO none).c (ints (wayO none).how) :: .row 24 5 aA ags.length ac (ags.flatMap Ag.cells) :: []) (0) ⟨Nat.zero_le _, fun u _ h => absurd h (by omega)⟩ (by repeat (first | exact Sub.nil _ | refine Sub.cons rfl ?_)) (by repeat (first | exact Pck.nil _ | exact Pck.refl _ | (apply Pck.cons; focus ((repeat (first | exact Rem.here _ | apply Rem.there)); done)) | refine Pck.skip _ ?_)) ?_
      rintro k ⟨hk5, hK⟩
      try dsimp only
      refine cod_seq ?_
      refine cod_seq ?_
      refine cod_region ?_
      refine lst_cut1 12 118 (.bool (decide ((k : Int) ≤ 4))) ?_ ?_
      · skip
        refine lst_move rfl rfl ?_
        refine lst_int rfl rfl rfl bin_leq ?_
        refine lst_move rfl rfl ?_
        refine lst_split (t := 109) rfl (fun hg109 => ?_) (fun hg109 => ?_)
        · skip
          refine lst_on rfl rfl ?_
          refine lst_move rfl rfl ?_
          refine lst_on rfl rfl ?_
          refine lst_not rfl rfl ?_
          refine lst_on rfl rfl ?_
          refine lst_move rfl rfl ?_
          refine lst_off rfl rfl rfl ?_
          refine lst_off rfl rfl rfl ?_
          refine lst_off rfl rfl rfl ?_
          refine lst_off rfl rfl rfl ?_
          refine lst_on rfl rfl ?_
          refine lst_pick_true rfl rfl rfl ?_
          refine lst_pick_true rfl rfl rfl ?_
          refine lst_nil ?_
          exact ex_cut (.cons (by simp_all [look] <;> omega) (by repeat (first | exact Sub.nil _ | refine Sub.cons rfl ?_))) (by repeat (first | exact List.Sublist.refl _ | exact List.nil_sublist _ | refine List.Sublist.cons_cons _ ?_ | refine List.Sublist.cons _ ?_))
        · skip
          refine lst_off rfl rfl rfl ?_
          refine lst_off rfl rfl rfl ?_
          refine lst_off rfl rfl rfl ?_
          refine lst_offu rfl rfl rfl ?_
          refine lst_offu rfl rfl rfl ?_
          refine lst_offu rfl rfl rfl ?_
          refine lst_offu rfl rfl rfl ?_
          refine lst_off rfl rfl rfl ?_
          refine lst_pick_false rfl rfl rfl ?_
          refine lst_nil ?_
          exact ex_cut (.cons (by simp_all [look] <;> omega) (by repeat (first | exact Sub.nil _ | refine Sub.cons rfl ?_))) (by repeat (first | exact List.Sublist.refl _ | exact List.nil_sublist _ | refine List.Sublist.cons_cons _ ?_ | refine List.Sublist.cons _ ?_))
      refine lst_nil ?_
      refine ex_then ?_
      refine cod_cond_bool rfl (fun hc4 => ?_) (fun hc4 => ?_)
      · skip
        have hk4 : k ≤ 4 := by simp at hc4; omega
        have hk5x : k ≤ 5 := by omega
        refine cod_skip ?_
        refine ex_then ?_
        refine cod_seq ?_
        refine cod_block ?_
        refine cod_seq ?_
        refine cod_region ?_
        refine lst_move rfl rfl ?_
        refine lst_len rfl rfl Tryd.underlying22 ?_
        refine lst_move rfl rfl ?_
        refine lst_call (X := List Sl × Option Addr × Nat) (first := []) (cap := []) (vs := [_, _]) (p := fun y => y.1.map Sl.l = strs ags.length k) (val := fun y => .slice y.2.1 y.1.length y.2.2) (rs := fun y => .row 25 1 y.2.1 y.1.length y.2.2 (y.1.map Sl.val) :: .row 3 1 (wayO none).A (wayO none).how.length (wayO none).c (ints (wayO none).how) :: .row 24 5 aA ags.length ac (ags.flatMap Ag.cells) :: (y.1.map Sl.res ++ [])) rfl rfl rfl F.ent38 (fun a w ha => by
          exact (Strings_c ags.length k (by omega) hk5x w).mono (fun e w' h => by obtain ⟨Ls, A', c', h1, h2, h3⟩ := h; refine ⟨(Ls, A', c'), h1, h2, (ha.more h3).pck (Pck.cons (.here _) ?_)⟩; rw [List.append_nil]; exact Pck.swap (Ls.map Sl.res) [.row 3 1 (wayO none).A (wayO none).how.length (wayO none).c (ints (wayO none).how), .row 24 5 aA ags.length ac (ags.flatMap Ag.cells)])) ?_
        rintro ⟨Ls, lA, lc⟩ hLs
        dsimp only at hLs ⊢
        refine lst_assign rfl rfl ?_
        refine lst_nil ?_
        refine ex_then ?_
        refine cod_seq ?_
        refine cod_region ?_
        refine lst_assign rfl rfl ?_
        refine lst_nil ?_
        refine ex_then ?_
        refine cod_block ?_
        refine cod_loop' (G := Nat) (fun g => g ≤ Ls.length ∧ ∀ j u, j < g → (strs ags.length k)[j]? = some u → clr1 ags m1 p u = false) (fun g => Ls.length - g) (fun g => [(4, .slice aA ags.length ac), (5, .int .i64 (m1 : Int)), (6, .int .i64 (p : Int)), (7, .slice (wayO none).A (wayO none).how.length (wayO none).c), (11, .bool false), (15, .int .i64 (k : Int)), (16, .slice lA Ls.length lc), (17, .int .i64 (g : Int))]) (fun g => .row 25 1 lA Ls.length lc (Ls.map Sl.val) :: .row 3 1 (wayO none).A (wayO none).how.length (wayO none).c (ints (wayO none).how) :: .row 24 5 aA ags.length ac (ags.flatMap Ag.cells) :: (Ls.map Sl.res ++ [])) (0) ⟨Nat.zero_le _, fun j u h => absurd h (by omega)⟩ (by repeat (first | exact Sub.nil _ | refine Sub.cons rfl ?_)) (by repeat (first | exact Pck.nil _ | exact Pck.refl _ | (apply Pck.cons; focus ((repeat (first | exact Rem.here _ | apply Rem.there)); done)) | refine Pck.skip _ ?_)) ?_
        rintro i ⟨hil, hI⟩
        try dsimp only
        refine cod_seq ?_
        refine cod_seq ?_
        refine cod_region ?_
        refine lst_move rfl rfl ?_
        refine lst_move rfl rfl ?_
        refine lst_len rfl rfl Tryd.underlying49 ?_
        refine lst_int rfl rfl rfl bin_lss ?_
        refine lst_nil ?_
        refine ex_then ?_
        refine cod_cond_dec rfl (fun hc5 => ?_) (fun hc5 => ?_)
        · skip
          have hi' : i < Ls.length := by omega
          refine cod_know (φ := ∃ g, lA = some ⟨g, 0, none⟩) (fun a w ha => row_some (ha.own _ (InR.mem (A := lA))) (by omega)) (fun hgL => ?_)
          obtain ⟨gL, rfl⟩ := hgL
          obtain ⟨s, hs⟩ : ∃ s, Ls[i]? = some s := ⟨_, List.getElem?_eq_getElem hi'⟩
          have hsx : (strs ags.length k)[i]? = some s.l := by rw [← hLs, List.getElem?_map, hs]; rfl
          have hsm : s ∈ Ls := List.mem_of_getElem? hs
          have hsl := (strs_mem (List.mem_of_getElem? hsx)).1
          have hv1 := followV_lt hok (way := s.l) (f := m1) (by omega)
          refine cod_skip ?_
          refine ex_then ?_
          refine cod_seq ?_
          refine cod_block ?_
          refine cod_seq ?_
          refine cod_region ?_
          refine lst_move rfl rfl ?_
          refine lst_move rfl rfl ?_
          refine lst_move rfl rfl ?_
          refine lst_move rfl rfl ?_
          refine lst_index (j := i) rfl rfl rfl Tryd.underlying49 F.ti25 rfl hi' ?_
          refine lst_load_at (v := .slice s.A s.l.length s.c) rfl rfl F.one25 (fun a w ha => row_cell ha (InR.mem (A := some ⟨gL, 0, none⟩)) rfl (by rw [Nat.zero_add]; exact vals_get hs)) ?_
          refine lst_fn0 (vs := [_, _, _]) rfl rfl F.ent36 (fun a w ha => follows_c aA s.A ac s.c m1 ags s.l hok (by omega) (by omega) w (row_reads ha (cells := Ag.cells) (size := 5) (e := 24) (c := ac) (n := ags.length) (fun _ => rfl) (InR.mem (A := aA)) rfl) (row_reads ha (cells := ncell) (size := 1) (e := 3) (c := s.c) (n := s.l.length) (fun _ => rfl) (by have hm : Res.row 3 1 s.A s.l.length s.c (ints s.l) ∈ Ls.map Sl.res := List.mem_map.2 ⟨s, hsm, rfl⟩; rw [← ints_flat]; simp [hm]) rfl)) ?_
          refine lst_move rfl rfl ?_
          refine lst_extract rfl rfl rfl ?_
          refine lst_extract rfl rfl rfl ?_
          refine lst_assign rfl rfl ?_
          refine lst_assign rfl rfl ?_
          refine lst_nil ?_
          refine ex_then ?_
          refine cod_seq ?_
          refine cod_region ?_
          refine lst_cut1 6 146 (.bool (clr1 ags m1 p s.l)) ?_ ?_
          · skip
            refine lst_move rfl rfl ?_
            refine lst_move rfl rfl ?_
            refine lst_split_bool (t := 142) rfl (fun hg142 => ?_) (fun hg142 => ?_)
            · skip
              refine lst_on rfl rfl ?_
              refine lst_move rfl rfl ?_
              refine lst_on rfl rfl ?_
              refine lst_move rfl rfl ?_
              refine lst_on rfl rfl ?_
              refine lst_fn0 (vs := [_, _]) rfl rfl F.ent37 (fun a w ha => Clear_c (followV (followN ags m1 s.l)) p hv1 hp w) ?_
              refine lst_pick_true rfl rfl rfl ?_
              refine lst_nil ?_
              exact ex_cut (.cons (by simp_all [look, clr1]) (by repeat (first | exact Sub.nil _ | refine Sub.cons rfl ?_))) (by repeat (first | exact List.Sublist.refl _ | exact List.nil_sublist _ | refine List.Sublist.cons_cons _ ?_ | refine List.Sublist.cons _ ?_))
            · skip
              refine lst_off rfl rfl rfl ?_
              refine lst_off rfl rfl rfl ?_
              refine lst_off rfl rfl rfl ?_
              refine lst_pick_false rfl rfl rfl ?_
              refine lst_nil ?_
              exact ex_cut (.cons (by simp_all [look, clr1]) (by repeat (first | exact Sub.nil _ | refine Sub.cons rfl ?_))) (by repeat (first | exact List.Sublist.refl _ | exact List.nil_sublist _ | refine List.Sublist.cons_cons _ ?_ | refine List.Sublist.cons _ ?_))
          refine lst_nil ?_
          refine ex_then ?_
          refine cod_cond_bool rfl (fun hc6 => ?_) (fun hc6 => ?_)
          · skip
            exact absurd hc6 (by rw [sho_none hfo]; simp) -- done
          · skip
            refine cod_skip ?_
            refine ex_block_normal ?_
            refine ex_then ?_
            refine cod_region ?_
            refine lst_move rfl rfl ?_
            refine lst_int rfl rfl rfl (fun w => bin_add w (wrap_i64' _ (by omega) (by have h1 := strs_le (n := ags.length) (k := k) (by omega) hk5x; have h2 : Ls.length = (strs ags.length k).length := (by rw [← hLs, List.length_map]); omega))) ?_
            refine lst_assign rfl rfl ?_
            refine lst_nil ?_
            refine ex_round' (i + 1) ⟨by omega, fun j u hj hju => ?_⟩ (by (try dsimp only); omega) (by repeat (first | exact Sub.nil _ | refine Sub.cons rfl ?_)) (by repeat (first | exact Pck.nil _ | exact Pck.refl _ | (apply Pck.cons; focus ((repeat (first | exact Rem.here _ | apply Rem.there)); done)) | refine Pck.skip _ ?_))
            rcases Nat.lt_or_ge j i with h | h
            · exact hI j u h hju
            · obtain rfl : j = i := by omega
              rw [hsx] at hju
              cases hju
              exact hc6
        · skip
          obtain rfl : i = Ls.length := by omega
          have hLl : Ls.length = (strs ags.length k).length := by rw [← hLs, List.length_map]
          refine cod_exit ?_
          refine ex_then_exit ?_
          refine ex_then_exit ?_
          refine ex_block_exit ?_
          refine ex_block_normal ?_
          refine ex_then ?_
          refine cod_region ?_
          refine lst_move rfl rfl ?_
          refine lst_int rfl rfl rfl (fun w => bin_add w (wrap_i64' _ (by omega) (by omega))) ?_
          refine lst_assign rfl rfl ?_
          refine lst_nil ?_
          refine ex_round' (k + 1) ⟨by omega, fun u hu hul => ?_⟩ (by (try dsimp only); omega) (by repeat (first | exact Sub.nil _ | refine Sub.cons rfl ?_)) (by repeat (first | exact Pck.nil _ | exact Pck.refl _ | (apply Pck.cons; focus ((repeat (first | exact Rem.here _ | apply Rem.there)); done)) | refine Pck.skip _ ?_))
          rcases Nat.lt_or_ge u.length k with h | h
          · exact hK u hu h
          · obtain ⟨j, hj⟩ := List.getElem?_of_mem (strs_all hu (show u.length = k by omega))
            exact hI j u (by rw [hLl]; exact (List.getElem?_eq_some_iff.1 hj).1) hj
      · skip
        refine cod_exit ?_
        refine ex_then_exit ?_
        refine ex_then_exit ?_
        refine ex_block_exit ?_
        refine ex_then ?_
        refine cod_seq ?_
        refine cod_region ?_
        refine lst_fn0 (vs := []) rfl rfl F.ent21 (fun a w ha => fined_c w) ?_
        refine lst_assign rfl rfl ?_
        refine lst_nil ?_
        refine ex_then ?_
        refine cod_ret ?_
        exact ex_ret rfl (fun a w ha => res_one rfl rfl ha) (fun a w ha => ⟨rfl, ha.grown (List.nil_sublist _)⟩)
  · skip
    refine cod_region ?_
    have hclr : Clr ags (usedAll ags.length) p m1 := (short_spec hfo).1.1 hso
    obtain ⟨e1, hfe, hne⟩ := sho_fol hfo hso
    have he64 := followN_lt hok _ m1 e1 hm64 hfe
    refine lst_move rfl rfl ?_
    refine lst_int rfl rfl rfl bin_neq ?_
    refine lst_move rfl rfl ?_
    refine lst_on rfl rfl ?_
    refine lst_move rfl rfl ?_
    refine lst_on rfl rfl ?_
    refine lst_len rfl rfl Tryd.underlying25 ?_
    refine lst_on rfl rfl ?_
    refine lst_int (v := .bool false) rfl rfl rfl (fun w => by rw [bin_gtr, decide_eq_false (by omega)]) ?_
    refine lst_pick_false rfl rfl rfl ?_
    refine lst_move rfl rfl ?_
    refine lst_on rfl rfl ?_
    refine lst_move rfl rfl ?_
    refine lst_on rfl rfl ?_
    refine lst_int rfl rfl rfl bin_neq ?_
    refine lst_on rfl rfl ?_
    refine lst_move rfl rfl ?_
    refine lst_off rfl rfl rfl ?_
    refine lst_off rfl rfl rfl ?_
    refine lst_on rfl rfl ?_
    refine lst_pick_false rfl rfl rfl ?_
    refine lst_pick_false rfl rfl rfl ?_
    refine lst_move rfl rfl ?_
    refine lst_on rfl rfl ?_
    refine lst_move rfl rfl ?_
    refine lst_on rfl rfl ?_
    refine lst_len rfl rfl Tryd.underlying25 ?_
    refine lst_on rfl rfl ?_
    refine lst_int (v := .bool false) rfl rfl rfl (fun w => by rw [bin_gtr, decide_eq_false (by omega)]) ?_
    refine lst_pick_false rfl rfl rfl ?_
    refine lst_nil ?_
    refine ex_then ?_
    refine cod_cond_false rfl ?_
    refine cod_skip ?_
    refine ex_then ?_
    refine cod_seq ?_
    refine cod_region ?_
    refine lst_assign rfl rfl ?_
    refine lst_nil ?_
    refine ex_then ?_
    refine cod_seq ?_
    refine cod_seq ?_
    refine cod_region ?_
    refine lst_assign rfl rfl ?_
    refine lst_nil ?_
    refine ex_then ?_
    refine cod_block ?_
    refine cod_loop' (G := Nat) (fun g => g ≤ (rchL ags m1).length) (fun g => (rchL ags m1).length - g) (fun g => [(4, .slice aA ags.length ac), (5, .int .i64 (m1 : Int)), (6, .int .i64 (p : Int)), (7, .slice (wayO o).A (wayO o).how.length (wayO o).c), (11, .bool (anyC p ((rchL ags m1).take g))), (8, .int .i64 (if true = true then 0 else 11)), (9, .slice rA (rchL ags m1).length rc), (12, .int .i64 (g : Int))]) (fun g => .row 3 1 (wayO o).A (wayO o).how.length (wayO o).c (ints (wayO o).how) :: .row 3 1 rA (rchL ags m1).length rc (ints (rchL ags m1)) :: .row 24 5 aA ags.length ac (ags.flatMap Ag.cells) :: []) (0) (Nat.zero_le _) (by repeat (first | exact Sub.nil _ | refine Sub.cons rfl ?_)) (by repeat (first | exact Pck.nil _ | exact Pck.refl _ | (apply Pck.cons; focus ((repeat (first | exact Rem.here _ | apply Rem.there)); done)) | refine Pck.skip _ ?_)) ?_
    rintro q hql
    try dsimp only at hql ⊢
    refine cod_seq ?_
    refine cod_seq ?_
    refine cod_region ?_
    refine lst_move rfl rfl ?_
    refine lst_move rfl rfl ?_
    refine lst_len rfl rfl Tryd.underlying25 ?_
    refine lst_int rfl rfl rfl bin_lss ?_
    refine lst_nil ?_
    refine ex_then ?_
    refine cod_cond_dec rfl (fun hc1 => ?_) (fun hc1 => ?_)
    · skip
      have hq' : q < (rchL ags m1).length := by omega
      obtain ⟨y, hy⟩ : ∃ y, (rchL ags m1)[q]? = some y := ⟨_, List.getElem?_eq_getElem hq'⟩
      have hy64 : y < 64 := ((rchL_mem hok hm64).1 (List.mem_of_getElem? hy)).lt hok hm64
      refine cod_skip ?_
      refine ex_then ?_
      refine cod_seq ?_
      refine cod_block ?_
      refine cod_region ?_
      refine lst_cut1 9 75 (.bool (anyC p ((rchL ags m1).take q) || decide (nn y p = 0))) ?_ ?_
      · skip
        refine lst_move rfl rfl ?_
        refine lst_move rfl rfl ?_
        refine lst_split_bool (t := 68) rfl (fun hg68 => ?_) (fun hg68 => ?_)
        · skip
          refine lst_off rfl rfl rfl ?_
          refine lst_off rfl rfl rfl ?_
          refine lst_off rfl rfl rfl ?_
          refine lst_off rfl rfl rfl ?_
          refine lst_off rfl rfl rfl ?_
          refine lst_off rfl rfl rfl ?_
          refine lst_pick_true rfl rfl rfl ?_
          refine lst_nil ?_
          exact ex_cut (.cons (by simp_all [look]) (by repeat (first | exact Sub.nil _ | refine Sub.cons rfl ?_))) (by repeat (first | exact List.Sublist.refl _ | exact List.nil_sublist _ | refine List.Sublist.cons_cons _ ?_ | refine List.Sublist.cons _ ?_))
        · skip
          refine lst_on rfl rfl ?_
          refine lst_move rfl rfl ?_
          refine lst_on rfl rfl ?_
          refine lst_move rfl rfl ?_
          refine lst_on rfl rfl ?_
          refine lst_index_row (j := q) rfl rfl rfl Tryd.underlying25 F.ti3 rfl hq' rfl rfl ?_
          intro gm hgm
          refine lst_on rfl rfl ?_
          refine lst_load_row (v := .int .i64 (y : Int)) rfl rfl F.one3 hgm (ints_get hy) ?_
          refine lst_on rfl rfl ?_
          refine lst_move rfl rfl ?_
          refine lst_on rfl rfl ?_
          refine lst_fn0 (vs := [_, _]) rfl rfl F.ent37 (fun a w ha => Clear_c y p hy64 hp w) ?_
          refine lst_pick_false rfl rfl rfl ?_
          refine lst_nil ?_
          exact ex_cut (.cons (by simp_all [look]) (by repeat (first | exact Sub.nil _ | refine Sub.cons rfl ?_))) (by repeat (first | exact List.Sublist.refl _ | exact List.nil_sublist _ | refine List.Sublist.cons_cons _ ?_ | refine List.Sublist.cons _ ?_))
      refine lst_assign rfl rfl ?_
      refine lst_nil ?_
      refine ex_block_normal ?_
      refine ex_then ?_
      refine cod_region ?_
      refine lst_move rfl rfl ?_
      refine lst_int rfl rfl rfl (fun w => bin_add w (wrap_i64' _ (by omega) (by omega))) ?_
      refine lst_assign rfl rfl ?_
      refine lst_nil ?_
      refine ex_round' (q + 1) (by (try dsimp only); omega) (by (try dsimp only); omega) (by (try dsimp only); rw [anyC_take hy]; repeat (first | exact Sub.nil _ | refine Sub.cons rfl ?_)) (by repeat (first | exact Pck.nil _ | exact Pck.refl _ | (apply Pck.cons; focus ((repeat (first | exact Rem.here _ | apply Rem.there)); done)) | refine Pck.skip _ ?_))
    · skip
      obtain rfl : q = (rchL ags m1).length := by omega
      rw [List.take_length, anyC_yes hok hm64 hclr]
      refine cod_exit ?_
      refine ex_then_exit ?_
      refine ex_then_exit ?_
      refine ex_block_exit ?_
      refine ex_then ?_
      refine cod_seq ?_
      refine cod_seq ?_
      refine cod_region ?_
      refine lst_move rfl rfl ?_
      refine lst_move rfl rfl ?_
      refine lst_int rfl rfl rfl bin_eql ?_
      refine lst_bin (v := .bool false) rfl rfl rfl (run_neq_bool Tryd.underlying4 _ _ _ _) ?_
      refine lst_move rfl rfl ?_
      refine lst_on rfl rfl ?_
      refine lst_move rfl rfl ?_
      refine lst_on rfl rfl ?_
      refine lst_not rfl rfl ?_
      refine lst_on rfl rfl ?_
      refine lst_move rfl rfl ?_
      refine lst_off rfl rfl rfl ?_
      refine lst_off rfl rfl rfl ?_
      refine lst_off rfl rfl rfl ?_
      refine lst_on rfl rfl ?_
      refine lst_pick_false rfl rfl rfl ?_
      refine lst_pick_false rfl rfl rfl ?_
      refine lst_nil ?_
      refine ex_then ?_
      refine cod_cond_false rfl ?_
      refine cod_skip ?_
      refine ex_then ?_
      refine cod_seq ?_
      refine cod_region ?_
      refine lst_move rfl rfl ?_
      refine lst_move rfl rfl ?_
      refine lst_move rfl rfl ?_
      refine lst_fn0 (v := .tuple #[.int .i64 (followV (followN ags m1 (wayO o).how) : Int), .bool (followN ags m1 (wayO o).how).isSome]) (vs := [_, _, _]) rfl rfl F.ent36 (fun a w ha => follows_c aA (wayO o).A ac (wayO o).c m1 ags (wayO o).how hok hm64 (by omega) w (row_reads ha (cells := Ag.cells) (size := 5) (e := 24) (c := ac) (n := ags.length) (fun _ => rfl) (InR.mem (A := aA)) rfl) (row_reads ha (cells := ncell) (size := 1) (e := 3) (c := (wayO o).c) (n := (wayO o).how.length) (fun _ => rfl) (by rw [← ints_flat]; exact InR.mem (A := (wayO o).A)) rfl)) ?_
      refine lst_move rfl rfl ?_
      refine lst_extract rfl rfl rfl ?_
      refine lst_extract rfl rfl rfl ?_
      refine lst_assign rfl rfl ?_
      refine lst_assign rfl rfl ?_
      rw [hfe]
      refine lst_nil ?_
      refine ex_then ?_
      refine cod_seq ?_
      refine cod_seq ?_
      refine cod_region ?_
      refine lst_move rfl rfl ?_
      refine lst_move rfl rfl ?_
      refine lst_on rfl rfl ?_
      refine lst_move rfl rfl ?_
      refine lst_on rfl rfl ?_
      refine lst_not rfl rfl ?_
      refine lst_on rfl rfl ?_
      refine lst_move rfl rfl ?_
      refine lst_on rfl rfl ?_
      refine lst_move rfl rfl ?_
      refine lst_on rfl rfl ?_
      refine lst_move rfl rfl ?_
      refine lst_on rfl rfl ?_
      refine lst_fn0 (v := .bool true) (vs := [_, _]) rfl rfl F.ent37 (fun a w ha => (Clear_c e1 p he64 hp w).mono (fun e w' h => ⟨h.1.trans (by rw [hne]; rfl), h.2⟩)) ?_
      refine lst_on rfl rfl ?_
      refine lst_not rfl rfl ?_
      refine lst_on rfl rfl ?_
      refine lst_pick_false rfl rfl rfl ?_
      refine lst_pick_true rfl rfl rfl ?_
      refine lst_nil ?_
      refine ex_then ?_
      refine cod_cond_false rfl ?_
      refine cod_skip ?_
      refine ex_then ?_
      refine cod_seq ?_
      refine cod_seq ?_
      refine cod_region ?_
      refine lst_assign rfl rfl ?_
      refine lst_nil ?_
      refine ex_then ?_
      refine cod_block ?_
      refine cod_loop' (G := Nat) (fun g => g ≤ 5 ∧ ∀ u, Wd ags.length u → u.length < g → clr1 ags m1 p u = false) (fun g => 6 - g) (fun g => [(4, .slice aA ags.length ac), (5, .int .i64 (m1 : Int)), (6, .int .i64 (p : Int)), (7, .slice (wayO o).A (wayO o).how.length (wayO o).c), (11, .bool true), (15, .int .i64 (g : Int))]) (fun g => .row 3 1 (wayO o).A (wayO o).how.length (wayO o).c (ints (wayO o).how) :: .row 24 5 aA ags.length ac (ags.flatMap Ag.cells) :: []) (0) ⟨Nat.zero_le _, fun u _ h => absurd h (by omega)⟩ (by repeat (first | exact Sub.nil _ | refine Sub.cons rfl ?_)) (by repeat (first | exact Pck.nil _ | exact Pck.refl _ | (apply Pck.cons; focus ((repeat (first | exact Rem.here _ | apply Rem.there)); done)) | refine Pck.skip _ ?_)) ?_
      rintro k ⟨hk5, hK⟩
      try dsimp only
      refine cod_seq ?_
      refine cod_seq ?_
      refine cod_region ?_
      refine lst_cut1 12 118 (.bool (decide ((k : Int) ≤ 4) && decide ((k : Int) ≤ ((wayO o).how.length : Int)))) ?_ ?_
      · skip
        refine lst_move rfl rfl ?_
        refine lst_int rfl rfl rfl bin_leq ?_
        refine lst_move rfl rfl ?_
        refine lst_split (t := 109) rfl (fun hg109 => ?_) (fun hg109 => ?_)
        · skip
          refine lst_on rfl rfl ?_
          refine lst_move rfl rfl ?_
          refine lst_on rfl rfl ?_
          refine lst_not rfl rfl ?_
          refine lst_on rfl rfl ?_
          refine lst_move rfl rfl ?_
          refine lst_on rfl rfl ?_
          refine lst_move rfl rfl ?_
          refine lst_on rfl rfl ?_
          refine lst_move rfl rfl ?_
          refine lst_on rfl rfl ?_
          refine lst_len rfl rfl Tryd.underlying25 ?_
          refine lst_on rfl rfl ?_
          refine lst_int rfl rfl rfl bin_leq ?_
          refine lst_on rfl rfl ?_
          refine lst_pick_false rfl rfl rfl ?_
          refine lst_pick_true rfl rfl rfl ?_
          refine lst_nil ?_
          exact ex_cut (.cons (by simp_all [look] <;> omega) (by repeat (first | exact Sub.nil _ | refine Sub.cons rfl ?_))) (by repeat (first | exact List.Sublist.refl _ | exact List.nil_sublist _ | refine List.Sublist.cons_cons _ ?_ | refine List.Sublist.cons _ ?_))
        · skip
          refine lst_off rfl rfl rfl ?_
          refine lst_off rfl rfl rfl ?_
          refine lst_off rfl rfl rfl ?_
          refine lst_offu rfl rfl rfl ?_
          refine lst_offu rfl rfl rfl ?_
          refine lst_offu rfl rfl rfl ?_
          refine lst_offu rfl rfl rfl ?_
          refine lst_off rfl rfl rfl ?_
          refine lst_pick_false rfl rfl rfl ?_
          refine lst_nil ?_
          exact ex_cut (.cons (by simp_all [look] <;> omega) (by repeat (first | exact Sub.nil _ | refine Sub.cons rfl ?_))) (by repeat (first | exact List.Sublist.refl _ | exact List.nil_sublist _ | refine List.Sublist.cons_cons _ ?_ | refine List.Sublist.cons _ ?_))
      refine lst_nil ?_
      refine ex_then ?_
      refine cod_cond_bool rfl (fun hc4 => ?_) (fun hc4 => ?_)
      · skip
        have hk4 : k ≤ 4 := by simp at hc4; omega
        have hk5x : k ≤ 5 := by omega
        refine cod_skip ?_
        refine ex_then ?_
        refine cod_seq ?_
        refine cod_block ?_
        refine cod_seq ?_
        refine cod_region ?_
        refine lst_move rfl rfl ?_
        refine lst_len rfl rfl Tryd.underlying22 ?_
        refine lst_move rfl rfl ?_
        refine lst_call (X := List Sl × Option Addr × Nat) (first := []) (cap := []) (vs := [_, _]) (p := fun y => y.1.map Sl.l = strs ags.length k) (val := fun y => .slice y.2.1 y.1.length y.2.2) (rs := fun y => .row 25 1 y.2.1 y.1.length y.2.2 (y.1.map Sl.val) :: .row 3 1 (wayO o).A (wayO o).how.length (wayO o).c (ints (wayO o).how) :: .row 24 5 aA ags.length ac (ags.flatMap Ag.cells) :: (y.1.map Sl.res ++ [])) rfl rfl rfl F.ent38 (fun a w ha => by
          exact (Strings_c ags.length k (by omega) hk5x w).mono (fun e w' h => by obtain ⟨Ls, A', c', h1, h2, h3⟩ := h; refine ⟨(Ls, A', c'), h1, h2, (ha.more h3).pck (Pck.cons (.here _) ?_)⟩; rw [List.append_nil]; exact Pck.swap (Ls.map Sl.res) [.row 3 1 (wayO o).A (wayO o).how.length (wayO o).c (ints (wayO o).how), .row 24 5 aA ags.length ac (ags.flatMap Ag.cells)])) ?_
        rintro ⟨Ls, lA, lc⟩ hLs
        dsimp only at hLs ⊢
        refine lst_assign rfl rfl ?_
        refine lst_nil ?_
        refine ex_then ?_
        refine cod_seq ?_
        refine cod_region ?_
        refine lst_assign rfl rfl ?_
        refine lst_nil ?_
        refine ex_then ?_
        refine cod_block ?_
        refine cod_loop' (G := Nat) (fun g => g ≤ Ls.length ∧ ∀ j u, j < g → (strs ags.length k)[j]? = some u → clr1 ags m1 p u = false) (fun g => Ls.length - g) (fun g => [(4, .slice aA ags.length ac), (5, .int .i64 (m1 : Int)), (6, .int .i64 (p : Int)), (7, .slice (wayO o).A (wayO o).how.length (wayO o).c), (11, .bool true), (15, .int .i64 (k : Int)), (16, .slice lA Ls.length lc), (17, .int .i64 (g : Int))]) (fun g => .row 25 1 lA Ls.length lc (Ls.map Sl.val) :: .row 3 1 (wayO o).A (wayO o).how.length (wayO o).c (ints (wayO o).how) :: .row 24 5 aA ags.length ac (ags.flatMap Ag.cells) :: (Ls.map Sl.res ++ [])) (0) ⟨Nat.zero_le _, fun j u h => absurd h (by omega)⟩ (by repeat (first | exact Sub.nil _ | refine Sub.cons rfl ?_)) (by repeat (first | exact Pck.nil _ | exact Pck.refl _ | (apply Pck.cons; focus ((repeat (first | exact Rem.here _ | apply Rem.there)); done)) | refine Pck.skip _ ?_)) ?_
        rintro i ⟨hil, hI⟩
        try dsimp only
        refine cod_seq ?_
        refine cod_seq ?_
        refine cod_region ?_
        refine lst_move rfl rfl ?_
        refine lst_move rfl rfl ?_
        refine lst_len rfl rfl Tryd.underlying49 ?_
        refine lst_int rfl rfl rfl bin_lss ?_
        refine lst_nil ?_
        refine ex_then ?_
        refine cod_cond_dec rfl (fun hc5 => ?_) (fun hc5 => ?_)
        · skip
          have hi' : i < Ls.length := by omega
          refine cod_know (φ := ∃ g, lA = some ⟨g, 0, none⟩) (fun a w ha => row_some (ha.own _ (InR.mem (A := lA))) (by omega)) (fun hgL => ?_)
          obtain ⟨gL, rfl⟩ := hgL
          obtain ⟨s, hs⟩ : ∃ s, Ls[i]? = some s := ⟨_, List.getElem?_eq_getElem hi'⟩
          have hsx : (strs ags.length k)[i]? = some s.l := by rw [← hLs, List.getElem?_map, hs]; rfl
          have hsm : s ∈ Ls := List.mem_of_getElem? hs
          have hsl := (strs_mem (List.mem_of_getElem? hsx)).1
          have hv1 := followV_lt hok (way := s.l) (f := m1) (by omega)
          refine cod_skip ?_
          refine ex_then ?_
          refine cod_seq ?_
          refine cod_block ?_
          refine cod_seq ?_
          refine cod_region ?_
          refine lst_move rfl rfl ?_
          refine lst_move rfl rfl ?_
          refine lst_move rfl rfl ?_
          refine lst_move rfl rfl ?_
          refine lst_index (j := i) rfl rfl rfl Tryd.underlying49 F.ti25 rfl hi' ?_
          refine lst_load_at (v := .slice s.A s.l.length s.c) rfl rfl F.one25 (fun a w ha => row_cell ha (InR.mem (A := some ⟨gL, 0, none⟩)) rfl (by rw [Nat.zero_add]; exact vals_get hs)) ?_
          refine lst_fn0 (vs := [_, _, _]) rfl rfl F.ent36 (fun a w ha => follows_c aA s.A ac s.c m1 ags s.l hok (by omega) (by omega) w (row_reads ha (cells := Ag.cells) (size := 5) (e := 24) (c := ac) (n := ags.length) (fun _ => rfl) (InR.mem (A := aA)) rfl) (row_reads ha (cells := ncell) (size := 1) (e := 3) (c := s.c) (n := s.l.length) (fun _ => rfl) (by have hm : Res.row 3 1 s.A s.l.length s.c (ints s.l) ∈ Ls.map Sl.res := List.mem_map.2 ⟨s, hsm, rfl⟩; rw [← ints_flat]; simp [hm]) rfl)) ?_
          refine lst_move rfl rfl ?_
          refine lst_extract rfl rfl rfl ?_
          refine lst_extract rfl rfl rfl ?_
          refine lst_assign rfl rfl ?_
          refine lst_assign rfl rfl ?_
          refine lst_nil ?_
          refine ex_then ?_
          refine cod_seq ?_
          refine cod_region ?_
          refine lst_cut1 6 146 (.bool (clr1 ags m1 p s.l)) ?_ ?_
          · skip
            refine lst_move rfl rfl ?_
            refine lst_move rfl rfl ?_
            refine lst_split_bool (t := 142) rfl (fun hg142 => ?_) (fun hg142 => ?_)
            · skip
              refine lst_on rfl rfl ?_
              refine lst_move rfl rfl ?_
              refine lst_on rfl rfl ?_
              refine lst_move rfl rfl ?_
              refine lst_on rfl rfl ?_
              refine lst_fn0 (vs := [_, _]) rfl rfl F.ent37 (fun a w ha => Clear_c (followV (followN ags m1 s.l)) p hv1 hp w) ?_
              refine lst_pick_true rfl rfl rfl ?_
              refine lst_nil ?_
              exact ex_cut (.cons (by simp_all [look, clr1]) (by repeat (first | exact Sub.nil _ | refine Sub.cons rfl ?_))) (by repeat (first | exact List.Sublist.refl _ | exact List.nil_sublist _ | refine List.Sublist.cons_cons _ ?_ | refine List.Sublist.cons _ ?_))
            · skip
              refine lst_off rfl rfl rfl ?_
              refine lst_off rfl rfl rfl ?_
              refine lst_off rfl rfl rfl ?_
              refine lst_pick_false rfl rfl rfl ?_
              refine lst_nil ?_
              exact ex_cut (.cons (by simp_all [look, clr1]) (by repeat (first | exact Sub.nil _ | refine Sub.cons rfl ?_))) (by repeat (first | exact List.Sublist.refl _ | exact List.nil_sublist _ | refine List.Sublist.cons_cons _ ?_ | refine List.Sublist.cons _ ?_))
          refine lst_nil ?_
          refine ex_then ?_
          refine cod_cond_bool rfl (fun hc6 => ?_) (fun hc6 => ?_)
          · skip
            have hfirst := first_of_strs1 hsx hc6 hK hI
            have hkh := sho_first hfo hfirst
            refine cod_seq ?_
            refine cod_region ?_
            refine lst_move rfl rfl ?_
            refine lst_move rfl rfl ?_
            refine lst_on rfl rfl ?_
            refine lst_move rfl rfl ?_
            refine lst_on rfl rfl ?_
            refine lst_move rfl rfl ?_
            refine lst_on rfl rfl ?_
            refine lst_move rfl rfl ?_
            refine lst_on rfl rfl ?_
            refine lst_index (j := i) rfl rfl rfl Tryd.underlying49 F.ti25 rfl hi' ?_
            refine lst_on rfl rfl ?_
            refine lst_load_at (v := .slice s.A s.l.length s.c) rfl rfl F.one25 (fun a w ha => row_cell ha (InR.mem (A := some ⟨gL, 0, none⟩)) rfl (by rw [Nat.zero_add]; exact vals_get hs)) ?_
            refine lst_on rfl rfl ?_
            refine lst_fn0 (v := .bool true) (vs := [_, _]) rfl rfl F.ent32 (fun a w ha => by
              have hr1 : RdL ncell 1 w (wayO o).A (wayO o).how := row_reads ha (cells := ncell) (size := 1) (e := 3) (c := (wayO o).c) (n := (wayO o).how.length) (fun _ => rfl) (by rw [← ints_flat]; exact List.mem_cons.2 (.inr (List.mem_cons.2 (.inl rfl)))) rfl
              have h := eqInts_c (wayO o).A s.A (wayO o).c s.c ((wayO o).how.map fun (n : Nat) => (n : Int)) (s.l.map fun (n : Nat) => (n : Int)) (by rw [List.length_map, hkh]; omega) w hr1.cast (RdL.cast (row_reads ha (cells := ncell) (size := 1) (e := 3) (c := s.c) (n := s.l.length) (fun _ => rfl) (by have hm : Res.row 3 1 s.A s.l.length s.c (ints s.l) ∈ Ls.map Sl.res := List.mem_map.2 ⟨s, hsm, rfl⟩; rw [← ints_flat]; simp [hm]) rfl))
              rw [List.length_map, List.length_map] at h
              exact h.mono (fun e w' h => ⟨h.1.trans (by rw [hkh]; simp), h.2⟩)) ?_
            refine lst_pick_true rfl rfl rfl ?_
            refine lst_move rfl rfl ?_
            refine lst_on rfl rfl ?_
            refine lst_fn0 (vs := []) rfl rfl F.ent21 (fun a w ha => fined_c w) ?_
            refine lst_pick_true rfl rfl rfl ?_
            refine lst_assign rfl rfl ?_
            refine lst_nil ?_
            refine ex_then ?_
            refine cod_ret ?_
            refine ex_block_ret ?_
            refine ex_then_ret ?_
            refine ex_then_ret ?_
            refine ex_block_ret ?_
            refine ex_block_ret ?_
            refine ex_then_ret ?_
            refine ex_then_ret ?_
            refine ex_block_ret ?_
            refine ex_then_ret ?_
            exact ex_ret rfl (fun a w ha => res_one rfl rfl ha) (fun a w ha => ⟨rfl, ha.grown (List.nil_sublist _)⟩)
          · skip
            refine cod_skip ?_
            refine ex_block_normal ?_
            refine ex_then ?_
            refine cod_region ?_
            refine lst_move rfl rfl ?_
            refine lst_int rfl rfl rfl (fun w => bin_add w (wrap_i64' _ (by omega) (by have h1 := strs_le (n := ags.length) (k := k) (by omega) hk5x; have h2 : Ls.length = (strs ags.length k).length := (by rw [← hLs, List.length_map]); omega))) ?_
            refine lst_assign rfl rfl ?_
            refine lst_nil ?_
            refine ex_round' (i + 1) ⟨by omega, fun j u hj hju => ?_⟩ (by (try dsimp only); omega) (by repeat (first | exact Sub.nil _ | refine Sub.cons rfl ?_)) (by repeat (first | exact Pck.nil _ | exact Pck.refl _ | (apply Pck.cons; focus ((repeat (first | exact Rem.here _ | apply Rem.there)); done)) | refine Pck.skip _ ?_))
            rcases Nat.lt_or_ge j i with h | h
            · exact hI j u h hju
            · obtain rfl : j = i := by omega
              rw [hsx] at hju
              cases hju
              exact hc6
        · skip
          obtain rfl : i = Ls.length := by omega
          have hLl : Ls.length = (strs ags.length k).length := by rw [← hLs, List.length_map]
          refine cod_exit ?_
          refine ex_then_exit ?_
          refine ex_then_exit ?_
          refine ex_block_exit ?_
          refine ex_block_normal ?_
          refine ex_then ?_
          refine cod_region ?_
          refine lst_move rfl rfl ?_
          refine lst_int rfl rfl rfl (fun w => bin_add w (wrap_i64' _ (by omega) (by omega))) ?_
          refine lst_assign rfl rfl ?_
          refine lst_nil ?_
          refine ex_round' (k + 1) ⟨by omega, fun u hu hul => ?_⟩ (by (try dsimp only); omega) (by repeat (first | exact Sub.nil _ | refine Sub.cons rfl ?_)) (by repeat (first | exact Pck.nil _ | exact Pck.refl _ | (apply Pck.cons; focus ((repeat (first | exact Rem.here _ | apply Rem.there)); done)) | refine Pck.skip _ ?_))
          rcases Nat.lt_or_ge u.length k with h | h
          · exact hK u hu h
          · obtain ⟨j, hj⟩ := List.getElem?_of_mem (strs_all hu (show u.length = k by omega))
            exact hI j u (by rw [hLl]; exact (List.getElem?_eq_some_iff.1 hj).1) hj
      · skip
        refine cod_exit ?_
        refine ex_then_exit ?_
        refine ex_then_exit ?_
        refine ex_block_exit ?_
        refine ex_then ?_
        refine cod_seq ?_
        refine cod_region ?_
        refine lst_fn0 (vs := []) rfl rfl F.ent21 (fun a w ha => fined_c w) ?_
        refine lst_assign rfl rfl ?_
        refine lst_nil ?_
        refine ex_then ?_
        refine cod_ret ?_
        exact ex_ret rfl (fun a w ha => res_one rfl rfl ha) (fun a w ha => ⟨rfl, ha.grown (List.nil_sublist _)⟩)

end Go.Proofs.YtofkhehcnfiopaaDoor.N
/- What rows of laws about numbers share that start goroutines: the laid world, and the law from its call in company. -/
namespace Go.Proofs.YtofkhehcnfiopaaDoor.N
open Go Go.ChangeShapes Go.WideShapes Go.ChangeAt Go.RowKit Go.Proofs Go.Proofs.YtofkhehcnfiopaaDoor Go.Proofs.YtofkhehcnfiopaaDoor.Rows
set_option linter.unusedSectionVars false
theorem own_ : ownKnob Tryd.prog.godebug = Option.none := by kernel_rfl
theorem laidOut_ : laidOutB Tryd.prog = true := by kernel_rfl
theorem cells3_ : Tryd.prog.cellsOf 3 = 1 := by kernel_rfl
theorem und25_ : Tryd.prog.underlying 25 = some (.slice 3) := by kernel_rfl
theorem und3_ : Tryd.prog.underlying 3 = some (.int .i64) := by kernel_rfl
theorem und4_ : Tryd.prog.underlying 4 = some .bool := by kernel_rfl
theorem read25_ : Tryd.prog.readableRec 25 = true := by kernel_rfl
set_option maxRecDepth 100000 in
theorem size_ : 25 < Tryd.prog.types.size := of_decide_eq_true (by kernel_rfl)
def laidL : List (String × DataW Unit) := [("errors.errorType", laid_errors_errorType)]
/-- The settled world, with the one listed variable laid. -/
noncomputable def laidWorld (os : Os) : World :=
  let w0 := World.holding Tryd.prog os ⟨#[], #[], []⟩
  { w0 with heap := w0.heap.modify 0 fun
      | .cells _ t frozen => .cells #[.iface 166 (.agg #[.pointer (some ⟨1, 107, Option.none⟩)])] t frozen
      | o => o }
theorem laidWorld_met (os : Os) (args : Array Value) : laidMetH Tryd.prog laidL ((laidWorld os).forCall (fun _ _ => 0) ⟨#[], args, []⟩).memory :=
  laidMetH_of_parts (laidMet_nil _ _) (by kernel_rfl)
theorem rdl_seen {α : Type} {cells : α → List Value} {size : Nat} {W : World} {A : Option Addr} {l : List α} (h : RdL cells size W A l) : RdL cells size (seenW W) A l := fun hl => by
  obtain ⟨b, o, h1, h2, h3⟩ := h hl
  exact ⟨b, o, h1, by simpa [seenW] using h2, fun k x hk j u hu => cell_seenW (h3 k x hk j u hu)⟩
theorem rdy_seen (W : World) : @Rdy (mSys Tryd.prog (Kf W.heap.size)) (rea_main W.heap.size) (seenW W) := ⟨by show W.heap.size ≤ (seenW W).heap.size; simp [seenW], rfl⟩
set_option maxRecDepth 100000 in
/-- A law of one list of numbers: the row's contract, from the law's own. -/
theorem ints_contractV {H : Type} {enc : TypeId × Value → H} {f : FuncId} {fn : Func} {s : ChangeSpec} (hp : fn.params = #[25]) (hr : fn.resultTypes = #[4]) (hs : s.vars = []) (hfn : ∀ d : DataW H, s.fn H [d] = { results := [.lit (.bool true)], args := [d] })
    (W : World) (law : ∀ (nA : Option Addr) (nc : Nat) (nums : List Int), RdL icell 1 (seenW W) nA nums → @Calls Tryd.prog (mSys Tryd.prog (Kf W.heap.size)) f #[.slice nA nums.length nc] (seenW W) fun e w' => e = .returned (.bool true) ∧ Grew (seenW W) w' [])
    (base : Nat) (args : Array Value) (ds gs : List (DataW H)) (before : List MemPlace)
    (hval : ∀ (j : Nat) t v, fn.params[j]? = some t → args[j]? = some v → Value.okWide Tryd.prog W .any base t v)
    (hW : DataW.Whole enc Tryd.prog fn.params.toList s.vars false W args.toList ds gs before) :
    ∃ K : Prot, K.low = W.heap.size ∧ @Calls Tryd.prog (mSys Tryd.prog K) f args (seenW W) fun e v' => ∃ x, e = .returned x ∧ Below (seenW W).heap.size (seenW W) v' ∧ ∀ W', Below W.heap.size W W' → s.post enc Tryd.prog fn false true false false W args x W' := by
  refine ⟨Kf W.heap.size, rfl, ?_⟩
  have hW' := hW
  obtain ⟨p, q, hA, hV, rfl, _, _⟩ := hW
  rw [hs] at hV
  rw [hp] at hA hval
  obtain ⟨v0, d0, rfl, rfl, h0⟩ := trodAll_one hA
  obtain ⟨rfl, rfl⟩ := trodVars_none hV
  obtain ⟨a0, len, cap, rfl⟩ := okWide_slice und25_ (hval 0 25 v0 rfl rfl)
  have h0k := h0
  obtain ⟨fuel, hf⟩ := h0
  clear hA
  simp only [List.append_nil] at hW'
  have hlt : ∀ x ∈ p, x.block < W.heap.size := fun x hx => by simpa using hW'.lt x hx
  have hargs : ∀ (W' : World), Below W.heap.size W W' → DataW.Trod enc Tryd.prog W' 0 (fun b => decide (b < W.heap.size)) true 25 (.slice a0 len cap) d0 p :=
    fun W' hn => Below.trod laidOut_ read25_ size_ h0k hn hlt
  have close : ∀ nums : List Int, nums.length = len → RdL icell 1 W a0 nums → @Calls Tryd.prog (mSys Tryd.prog (Kf W.heap.size)) f #[.slice a0 len cap] (seenW W) fun e v' => ∃ x, e = .returned x ∧ Below (seenW W).heap.size (seenW W) v' ∧ ∀ W', Below W.heap.size W W' → s.post enc Tryd.prog fn false true false false W #[.slice a0 len cap] x W' := by
    intro nums hn hR
    have hl := law a0 cap nums (rdl_seen hR)
    rw [hn] at hl
    refine @Calls.mono _ (mSys Tryd.prog (Kf W.heap.size)) _ _ _ _ _ hl fun e v' ⟨he, hg⟩ => ⟨_, he, hg.1, fun W' hb => ?_⟩
    refine ⟨_, _, _, [], p, [], hW', ?_, ?_, ?_, hb.frame _, fun h => Bool.noConfusion h⟩
    · rw [show s.fn H ([d0] ++ []) = _ from hfn d0, hr]; exact trodAll_mk1 (shut_bool und4_ true)
    · rw [show s.fn H ([d0] ++ []) = _ from hfn d0, hp]; exact trodAll_mk1 (hargs W' hb)
    · rw [show s.fn H ([d0] ++ []) = _ from hfn d0, hs]; rfl
  rcases open_ints und25_ und3_ cells3_ hf with ⟨hcs, hx⟩ | ⟨a, len', cap', zs, hcs, _, hl, hm, hz, hx, hcell, hwz⟩
  · simp [Value.cells] at hcs
    obtain ⟨rfl, rfl, rfl⟩ := hcs
    exact close [] rfl (fun h => absurd h (by simp))
  · simp [Value.cells] at hcs
    obtain ⟨rfl, rfl, rfl⟩ := hcs
    simp only [Prod.mk.injEq] at hx
    obtain ⟨rfl, rfl⟩ := hx
    simp only [if_true] at hz
    obtain ⟨b, off, spot⟩ := a
    refine close (zs.take len) (by rw [List.length_take]; omega) (fun hpos => ?_)
    rw [List.length_take] at hpos
    have hspot : spot = Option.none := by simpa [Addr.add] using World.cell?_spot (hcell 0 (by omega))
    subst hspot
    refine ⟨b, off, rfl, hlt (.cell b off) (MemPlace.mem_row.2 ⟨0, by omega, by simp⟩), fun k x hk j u hu => ?_⟩
    rw [List.getElem?_take] at hk
    split at hk
    · rename_i hkl
      cases j with
      | zero =>
        simp [icell] at hu
        subst hu
        have := hcell k (by omega)
        rw [List.getD_eq_getElem?_getD, hk] at this
        rw [Nat.mul_one, Nat.add_zero]
        rw [add_plain] at this
        exact this
      | succ j => simp [icell] at hu
    · cases hk
/-! What the listed variable holds. -/
/-! The program's order of start-up, letter by letter: what is said of it is then soon shown. -/
def orderN : List Nat := [104, 97, 114, 110, 101, 115, 115, 32, 52, 51, 55, 51, 50, 49, 102, 55, 48, 48, 50, 49, 100, 55, 53, 49, 98, 55, 102, 54, 57, 52, 102, 101, 54, 102, 52, 54, 99, 48, 98, 99, 101, 56, 49, 49, 56, 98, 100, 51, 55, 102, 52, 101, 52, 49, 49, 99, 97, 53, 99, 100, 55, 50, 51, 98, 48, 101, 48, 53, 57, 50, 100, 98, 32, 99, 117, 116, 32, 97, 116, 32, 109, 117, 115, 99, 111, 118, 97, 100, 111, 47, 109, 117, 115, 99, 111, 118, 97, 100, 111, 108, 97, 119, 48, 57, 46, 70, 105, 110, 105, 110, 103, 66, 111, 116, 104, 115, 32, 109, 117, 115, 99, 111, 118, 97, 100, 111, 47, 109, 117, 115, 99, 111, 118, 97, 100, 111, 108, 97, 119, 48, 57, 46, 70, 105, 110, 105, 110, 103, 67, 104, 101, 97, 112, 101, 115, 116, 32, 109, 117, 115, 99, 111, 118, 97, 100, 111, 47, 109, 117, 115, 99, 111, 118, 97, 100, 111, 108, 97, 119, 48, 57, 46, 70, 105, 110, 105, 110, 103, 66, 111, 116, 104, 32, 109, 117, 115, 99, 111, 118, 97, 100, 111, 47, 109, 117, 115, 99, 111, 118, 97, 100, 111, 108, 97, 119, 48, 57, 46, 70, 105, 110, 105, 110, 103, 84, 101, 108, 108, 115, 32, 109, 117, 115, 99, 111, 118, 97, 100, 111, 47, 109, 117, 115, 99, 111, 118, 97, 100, 111, 108, 97, 119, 48, 57, 46, 70, 105, 110, 105, 110, 103, 80, 117, 116, 32, 109, 117, 115, 99, 111, 118, 97, 100, 111, 47, 109, 117, 115, 99, 111, 118, 97, 100, 111, 108, 97, 119, 48, 57, 46, 70, 105, 110, 105, 110, 103, 80, 117, 116, 115, 32, 109, 117, 115, 99, 111, 118, 97, 100, 111, 47, 109, 117, 115, 99, 111, 118, 97, 100, 111, 108, 97, 119, 48, 57, 46, 70, 105, 110, 105, 110, 103, 77, 111, 114, 101, 32, 109, 117, 115, 99, 111, 118, 97, 100, 111, 47, 109, 117, 115, 99, 111, 118, 97, 100, 111, 108, 97, 119, 48, 57, 46, 70, 105, 110, 105, 110, 103, 78, 117, 109, 98, 101, 114, 101, 100, 32, 109, 117, 115, 99, 111, 118, 97, 100, 111, 47, 109, 117, 115, 99, 111, 118, 97, 100, 111, 108, 97, 119, 48, 57, 46, 70, 105, 110, 105, 110, 103, 78, 101, 101, 100, 115, 32, 109, 117, 115, 99, 111, 118, 97, 100, 111, 47, 109, 117, 115, 99, 111, 118, 97, 100, 111, 108, 97, 119, 48, 57, 46, 70, 105, 110, 105, 110, 103, 78, 101, 101, 100, 101, 100, 32, 109, 117, 115, 99, 111, 118, 97, 100, 111, 47, 109, 117, 115, 99, 111, 118, 97, 100, 111, 108, 97, 119, 48, 57, 46, 70, 105, 110, 105, 110, 103, 87, 97, 121, 115, 32, 109, 117, 115, 99, 111, 118, 97, 100, 111, 47, 109, 117, 115, 99, 111, 118, 97, 100, 111, 108, 97, 119, 48, 57, 46, 70, 105, 110, 105, 110, 103, 82, 101, 97, 99, 104, 32, 109, 117, 115, 99, 111, 118, 97, 100, 111, 47, 109, 117, 115, 99, 111, 118, 97, 100, 111, 108, 97, 119, 48, 57, 46, 70, 105, 110, 105, 110, 103, 83, 104, 111, 114, 116, 101, 115, 116, 32, 109, 117, 115, 99, 111, 118, 97, 100, 111, 47, 109, 117, 115, 99, 111, 118, 97, 100, 111, 108, 97, 119, 48, 57, 46, 70, 105, 110, 105, 110, 103, 72, 111, 112, 101, 108, 101, 115, 115, 32, 109, 117, 115, 99, 111, 118, 97, 100, 111, 47, 109, 117, 115, 99, 111, 118, 97, 100, 111, 108, 97, 119, 48, 57, 46, 70, 105, 110, 105, 110, 103, 70, 97, 117, 108, 116, 115, 32, 109, 117, 115, 99, 111, 118, 97, 100, 111, 47, 109, 117, 115, 99, 111, 118, 97, 100, 111, 108, 97, 119, 48, 57, 46, 70, 105, 110, 105, 110, 103, 72, 111, 112, 101, 115, 32, 109, 117, 115, 99, 111, 118, 97, 100, 111, 47, 109, 117, 115, 99, 111, 118, 97, 100, 111, 108, 97, 119, 48, 57, 46, 70, 105, 110, 105, 110, 103, 70, 101, 119, 101, 115, 116, 32, 109, 117, 115, 99, 111, 118, 97, 100, 111, 47, 109, 117, 115, 99, 111, 118, 97, 100, 111, 108, 97, 119, 48, 57, 46, 70, 105, 110, 105, 110, 103, 75, 110, 111, 119, 110]
def wordsN : List (List Nat) := [[104, 97, 114, 110, 101, 115, 115], [52, 51, 55, 51, 50, 49, 102, 55, 48, 48, 50, 49, 100, 55, 53, 49, 98, 55, 102, 54, 57, 52, 102, 101, 54, 102, 52, 54, 99, 48, 98, 99, 101, 56, 49, 49, 56, 98, 100, 51, 55, 102, 52, 101, 52, 49, 49, 99, 97, 53, 99, 100, 55, 50, 51, 98, 48, 101, 48, 53, 57, 50, 100, 98], [99, 117, 116], [97, 116], [109, 117, 115, 99, 111, 118, 97, 100, 111, 47, 109, 117, 115, 99, 111, 118, 97, 100, 111, 108, 97, 119, 48, 57, 46, 70, 105, 110, 105, 110, 103, 66, 111, 116, 104, 115], [109, 117, 115, 99, 111, 118, 97, 100, 111, 47, 109, 117, 115, 99, 111, 118, 97, 100, 111, 108, 97, 119, 48, 57, 46, 70, 105, 110, 105, 110, 103, 67, 104, 101, 97, 112, 101, 115, 116], [109, 117, 115, 99, 111, 118, 97, 100, 111, 47, 109, 117, 115, 99, 111, 118, 97, 100, 111, 108, 97, 119, 48, 57, 46, 70, 105, 110, 105, 110, 103, 66, 111, 116, 104], [109, 117, 115, 99, 111, 118, 97, 100, 111, 47, 109, 117, 115, 99, 111, 118, 97, 100, 111, 108, 97, 119, 48, 57, 46, 70, 105, 110, 105, 110, 103, 84, 101, 108, 108, 115], [109, 117, 115, 99, 111, 118, 97, 100, 111, 47, 109, 117, 115, 99, 111, 118, 97, 100, 111, 108, 97, 119, 48, 57, 46, 70, 105, 110, 105, 110, 103, 80, 117, 116], [109, 117, 115, 99, 111, 118, 97, 100, 111, 47, 109, 117, 115, 99, 111, 118, 97, 100, 111, 108, 97, 119, 48, 57, 46, 70, 105, 110, 105, 110, 103, 80, 117, 116, 115], [109, 117, 115, 99, 111, 118, 97, 100, 111, 47, 109, 117, 115, 99, 111, 118, 97, 100, 111, 108, 97, 119, 48, 57, 46, 70, 105, 110, 105, 110, 103, 77, 111, 114, 101], [109, 117, 115, 99, 111, 118, 97, 100, 111, 47, 109, 117, 115, 99, 111, 118, 97, 100, 111, 108, 97, 119, 48, 57, 46, 70, 105, 110, 105, 110, 103, 78, 117, 109, 98, 101, 114, 101, 100], [109, 117, 115, 99, 111, 118, 97, 100, 111, 47, 109, 117, 115, 99, 111, 118, 97, 100, 111, 108, 97, 119, 48, 57, 46, 70, 105, 110, 105, 110, 103, 78, 101, 101, 100, 115], [109, 117, 115, 99, 111, 118, 97, 100, 111, 47, 109, 117, 115, 99, 111, 118, 97, 100, 111, 108, 97, 119, 48, 57, 46, 70, 105, 110, 105, 110, 103, 78, 101, 101, 100, 101, 100], [109, 117, 115, 99, 111, 118, 97, 100, 111, 47, 109, 117, 115, 99, 111, 118, 97, 100, 111, 108, 97, 119, 48, 57, 46, 70, 105, 110, 105, 110, 103, 87, 97, 121, 115], [109, 117, 115, 99, 111, 118, 97, 100, 111, 47, 109, 117, 115, 99, 111, 118, 97, 100, 111, 108, 97, 119, 48, 57, 46, 70, 105, 110, 105, 110, 103, 82, 101, 97, 99, 104], [109, 117, 115, 99, 111, 118, 97, 100, 111, 47, 109, 117, 115, 99, 111, 118, 97, 100, 111, 108, 97, 119, 48, 57, 46, 70, 105, 110, 105, 110, 103, 83, 104, 111, 114, 116, 101, 115, 116], [109, 117, 115, 99, 111, 118, 97, 100, 111, 47, 109, 117, 115, 99, 111, 118, 97, 100, 111, 108, 97, 119, 48, 57, 46, 70, 105, 110, 105, 110, 103, 72, 111, 112, 101, 108, 101, 115, 115], [109, 117, 115, 99, 111, 118, 97, 100, 111, 47, 109, 117, 115, 99, 111, 118, 97, 100, 111, 108, 97, 119, 48, 57, 46, 70, 105, 110, 105, 110, 103, 70, 97, 117, 108, 116, 115], [109, 117, 115, 99, 111, 118, 97, 100, 111, 47, 109, 117, 115, 99, 111, 118, 97, 100, 111, 108, 97, 119, 48, 57, 46, 70, 105, 110, 105, 110, 103, 72, 111, 112, 101, 115], [109, 117, 115, 99, 111, 118, 97, 100, 111, 47, 109, 117, 115, 99, 111, 118, 97, 100, 111, 108, 97, 119, 48, 57, 46, 70, 105, 110, 105, 110, 103, 70, 101, 119, 101, 115, 116], [109, 117, 115, 99, 111, 118, 97, 100, 111, 47, 109, 117, 115, 99, 111, 118, 97, 100, 111, 108, 97, 119, 48, 57, 46, 70, 105, 110, 105, 110, 103, 75, 110, 111, 119, 110]]
set_option maxRecDepth 100000 in
theorem order_ : Tryd.prog.initOrder = String.ofList (orderN.map Char.ofNat) := by kernel_rfl
theorem orderL_ : Tryd.prog.initOrder.toList = orderN.map Char.ofNat := by rw [order_, String.toList_ofList]
def wordN (k : Nat) : List Char := (wordsN.getD k []).map Char.ofNat
def wordR : List (List Char) := (wordsN.drop 3).map (·.map Char.ofNat)
set_option maxRecDepth 100000 in
theorem words0_ : wordsSigns Tryd.prog.initOrder.toList = wordN 0 :: wordN 1 :: wordN 2 :: wordR := by
  rw [orderL_]
  kernel_rfl
theorem behind_of {a b : List Char} {r : List (List Char)} (h1 : (a == "harness".toList || a == "ownmain".toList) = true) (h2 : isSumSigns b = true) : behindMainWord (a :: b :: r) = r := by
  unfold behindMainWord
  dsimp only
  rw [h1, h2]
  rfl
theorem words_ : behindMainWord (wordsSigns Tryd.prog.initOrder.toList) = wordN 2 :: wordR := by
  rw [words0_]
  exact behind_of (by kernel_rfl) (by kernel_rfl)
theorem make_of {P : Program} {c : List Char} {rest : List (List Char)} (h : behindMainWord (wordsSigns P.initOrder.toList) = c :: rest) (h1 : (c == "gc".toList || c == "spec".toList) = false) (h2 : (c == "cut".toList) = true) : P.make = some .cut := by
  unfold Program.make
  rw [h]
  dsimp only
  rw [h1, h2]
  rfl
theorem may_of {P : Program} {c : List Char} {rest : List (List Char)} (h : behindMainWord (wordsSigns P.initOrder.toList) = c :: rest) (h1 : (stripLifts liftWords (c :: rest)).1 = []) (h2 : ((stripLifts liftWords (c :: rest)).2.head? == some "cut".toList) = true) (h3 : P.laysLater = false) (h4 : P.bearsReflect = false) (h5 : P.doorFits [] = true) : P.mayEnter = true := by
  unfold Program.mayEnter
  rw [h]
  dsimp only
  rw [h1, h2, h3, h4, h5]
  simp
theorem lifts_of {P : Program} {c : List Char} {rest : List (List Char)} (h : behindMainWord (wordsSigns P.initOrder.toList) = c :: rest) (h1 : (stripLifts liftWords (c :: rest)).1 = []) (h2 : (c == "carried".toList) = false) : P.liftsFinal = false := by
  have e : (some c == some "carried".toList) = false := h2
  unfold Program.liftsFinal Program.headLifts
  dsimp only
  rw [h, h1, List.head?_cons, e]
  simp
theorem main_of {P : Program} {a b : List Char} {r : List (List Char)} {s : String} (h : wordsSigns P.initOrder.toList = a :: b :: r) (h1 : isSumSigns b = true) (h2 : (a == "harness".toList) = true) (h3 : s = String.ofList b) : P.mainIs = some (true, s.toList) := by
  unfold Program.mainIs
  rw [h]
  dsimp only
  rw [h1, h2, h3]
  simp [String.toList_ofList]
theorem word_lifts : (stripLifts liftWords (wordN 2 :: wordR)).1 = [] := by kernel_rfl
set_option maxRecDepth 100000 in
theorem make_ : Tryd.prog.make = some .cut := make_of words_ (by kernel_rfl) (by kernel_rfl)
set_option maxRecDepth 100000 in
theorem lifts_ : Tryd.prog.liftsFinal = false := lifts_of words_ word_lifts (by kernel_rfl)
set_option maxRecDepth 100000 in
theorem main_ : Tryd.prog.mainIs = some (true, "437321f70021d751b7f694fe6f46c0bce8118bd37f4e411ca5cd723b0e0592db".toList) := main_of words0_ (by kernel_rfl) (by kernel_rfl) (by kernel_rfl)
set_option maxRecDepth 100000 in
theorem laysLater_ : Tryd.prog.laysLater = false := by kernel_rfl
set_option maxRecDepth 100000 in
theorem bearsReflect_ : Tryd.prog.bearsReflect = false := by kernel_rfl
set_option maxRecDepth 100000 in
theorem door_ : Tryd.prog.doorFits [] = true := by kernel_rfl
set_option maxRecDepth 100000 in
theorem may_ : Tryd.prog.mayEnter = true := may_of words_ word_lifts (by kernel_rfl) laysLater_ bearsReflect_ door_
set_option maxRecDepth 100000 in
theorem mapsRowed_ : mapsRowed Tryd.prog = true := by kernel_rfl
set_option maxRecDepth 100000 in
theorem plainKeys_ : Tryd.prog.plainKeys = false := by kernel_rfl
set_option maxRecDepth 100000 in
theorem stopsHeard_ : Tryd.prog.stopsHeard = true := by kernel_rfl
set_option maxRecDepth 100000 in
theorem looks_ : Tryd.prog.looks [] = true := by kernel_rfl
/-- A tied card whose calls can start goroutines. -/
theorem holds_tied_goes (Lk : Looks) {p : Pinned} {s : OpenSpec} {c : OpenClaim} (kinds : List LaidKind) (tests : Bool) (har : Bool × String) (lk g : Bool)
    (hc : c.holds p s) (hw : c.wfByText s = true) (htie : c.laidByTextAt Lk p kinds tests)
    (hst : c.start = .entering) (hnb : c.noBlocks = false ∧ c.again = false) (hm : p.checked.prog.mainIs = some (har.1, har.2.toList)) (hn : (!har.1 && har.2.isEmpty && !lk) = false)
    (hl : ∀ f fn, p.checked.prog.funcNamed c.func = some f → p.checked.prog.funcs[f]? = some fn → lk = p.checked.prog.looks [] ∧ ∀ (j : Nat) t, fn.params[j]? = some t → p.checked.prog.wantsStandIn t = false)
    (hg : g = c.goesBy p.checked.prog) :
    Claim7.holds p (.plain s) { stood := { row := c, standIns := [], harness := har, looks := lk }, kinds := [], alts := [], goes := g, laidByText := true, laidKinds := kinds, laidTests := tests, laidLooks := Lk } := by
  have h6 : ∀ r : OpenClaim, Claim7.isSixth { stood := { row := r, standIns := [], harness := har, looks := lk }, kinds := [] } = false := fun r => by simpa [Claim7.isSixth] using hn
  refine ⟨Claim7.tied_new_at Lk kinds tests (Claim7.new_of_sixth hc har lk hst hnb hm (h6 c) hl) hw, fun D hD => ?_, htie, (fun h => by cases h), hg⟩
  cases hD
end Go.Proofs.YtofkhehcnfiopaaDoor.N
