/- Parts of the walks of the laws on fining, those that FiningHopes needs: F54, All5, F55, Leave, RowK, RowK2. -/
import Derived.Test.YtofkhehcnfiopaaDoorSFiningHopes09
import Derived.Test.YtofkhehcnfiopaaDoorProg
import Derived.Conc.LeavingOf
import Derived.Leaving
import Derived.Test.YtofkhehcnfiopaaDoorSFiningHopes00
import Derived.Test.YtofkhehcnfiopaaDoorRows
import Derived.ChangeSame
import Derived.ChangeVars
import Derived.JoinedOf
import Derived.RowKit
import Derived.RowKitTokens
import Derived.LaidLaws
import Derived.LaidHandle
import Derived.Stop.Joined
import Derived.ProofKit
import Derived.SizedLaws
import Derived.OpenShut
import Derived.SevenTiedAt
import Derived.Conc.Holds
import Derived.Test.YtofkhehcnfiopaaDoorSFiningHopes07
import Derived.Deep.Slices
namespace Go.Proofs.YtofkhehcnfiopaaDoor.N
open Go Go.RowKit Go.Proofs
theorem F.ent70 : Enters Tryd.prog 70 := enters_of Tryd.func70 rfl (by kernel_rfl)
theorem rFewest_ok (A : Option Addr) (c : Nat) (ags : List Ag) (hok : Oks ags) (p : Nat) (hp : p < 64) (w : World) (hA : RdL Ag.cells 5 w A ags) : Calls Tryd.prog 68 #[.slice A ags.length c, .int .i64 (p : Int)] w fun e w' => ∃ (W : List Nat) (A' : Option Addr) (c' : Nat), FewS ags.length (asAll ags p) W ∧ SetOk ags.length W ∧ e = .returned (.tuple #[.slice A' W.length c', .int .i64 0]) ∧ Grew w w' [.row 3 1 A' W.length c' (ints W)] := by
  refine enter (N := 66) [(0, .slice A ags.length c), (1, .int .i64 (p : Int))] Tryd.func68 rfl Tryd.ntmps68 rfl rfl ?_
  refine cod_seq ?_
  refine cod_region ?_
  refine lst_assign rfl rfl ?_
  refine lst_assign rfl rfl ?_
  refine lst_nil ?_
  refine ex_then ?_
  refine cod_seq ?_
  refine cod_seq ?_
  refine cod_region ?_
  refine lst_move rfl rfl ?_
  refine lst_move rfl rfl ?_
  refine lst_fn0 (v := .int .i64 0) (vs := [_, _, _]) rfl rfl F.ent86 (fun a w ha => by
    have h := asked_c A c (ags.map Ag.raw) 0 (p : Int) w (hA.raw.later ha.below)
    rw [List.length_map, show askedR (ags.map Ag.raw) 0 (p : Int) = 0 from askedR_ok (m := 0) hok (by omega) (by omega)] at h
    exact h) ?_
  refine lst_assign rfl rfl ?_
  refine lst_nil ?_
  refine ex_then ?_
  refine cod_seq ?_
  refine cod_region ?_
  refine lst_move rfl rfl ?_
  refine lst_int rfl rfl rfl bin_neq ?_
  refine lst_nil ?_
  refine ex_then ?_
  refine cod_cond_false rfl ?_
  refine cod_skip ?_
  refine ex_then ?_
  refine cod_seq ?_
  refine cod_region ?_
  refine lst_move rfl rfl ?_
  refine lst_move rfl rfl ?_
  refine lst_fn (X := List Nat × Nat) (vs := [_, _, _]) (p := fun y => Dst ags (usedAll ags.length) p y.1) (val := fun y => .slice (some ⟨y.2, 0, none⟩) 64 64) (rs := fun y => [.row 3 1 (some ⟨y.2, 0, none⟩) 64 64 (ints y.1)]) rfl rfl F.ent103 (fun a w ha => (rPuts_c A c ags hok p hp (usedAll ags.length) (-1) (fun i hi => by rw [usedAll_bit]; simp [hi]) w (hA.later ha.below)).mono (fun e w' h => by obtain ⟨L, b, h1, h2, h3⟩ := h; exact ⟨(L, b), h1, h2, h3⟩)) ?_
  rintro ⟨L0, bP0⟩ hD0
  dsimp only [List.cons_append, List.nil_append] at hD0 ⊢
  have hll0 := hD0.len
  refine lst_assign rfl rfl ?_
  refine lst_nil ?_
  refine ex_then ?_
  refine cod_seq ?_
  refine cod_region ?_
  refine lst_assign rfl rfl ?_
  refine lst_nil ?_
  refine ex_then ?_
  refine cod_block ?_
  refine cod_loop (G := Nat) (fun k => k ≤ ags.length ∧ SeenC ags.length (asAll ags p) k 0) (fun k => ags.length - k) (fun k => [(0, .slice A ags.length c), (1, .int .i64 (p : Int)), (7, .slice (some ⟨bP0, 0, none⟩) 64 64), (8, .int .i64 (k : Int))]) (fun k => [.row 3 1 (some ⟨bP0, 0, none⟩) 64 64 (ints L0)]) 0 ⟨Nat.zero_le _, .start⟩ (by repeat (first | exact Sub.nil _ | refine Sub.cons rfl ?_)) (by repeat (first | exact List.Sublist.refl _ | exact List.nil_sublist _ | refine List.Sublist.cons_cons _ ?_ | refine List.Sublist.cons _ ?_)) ?_
  intro k hk
  (try dsimp only at hk ⊢)
  have hk5 : k ≤ 4 := by have := hok.1; omega
  have h4 := hok.1
  refine cod_seq ?_
  refine cod_block ?_
  refine cod_seq ?_
  refine cod_region ?_
  refine lst_move rfl rfl ?_
  refine lst_len rfl rfl Tryd.underlying22 ?_
  refine lst_move rfl rfl ?_
  refine lst_fn (X := List Sl × Option Addr × Nat) (vs := [_, _, _]) (p := fun y => y.1.map Sl.l = chsL ags.length k 0) (val := fun y => .slice y.2.1 y.1.length y.2.2) (rs := fun y => .row 25 1 y.2.1 y.1.length y.2.2 (y.1.map Sl.val) :: y.1.map Sl.res) rfl rfl F.ent111 (fun a w ha => (choose_c ags.length hok.1 k (by omega) 0 w (by omega)).mono (fun e w' h => by obtain ⟨Ls, A', c', h1, h2, h3⟩ := h; exact ⟨(Ls, A', c'), h1, h2, h3⟩)) ?_
  rintro ⟨Ls, lA, lc⟩ hLs
  dsimp only [List.cons_append] at hLs ⊢
  have hLl : Ls.length = (chsL ags.length k 0).length := by rw [← hLs, List.length_map]
  refine lst_assign rfl rfl ?_
  refine lst_nil ?_
  refine ex_then ?_
  refine cod_seq ?_
  refine cod_region ?_
  refine lst_assign rfl rfl ?_
  refine lst_nil ?_
  refine ex_then ?_
  refine cod_block ?_
  refine cod_loop' (G := Nat) (fun g => g ≤ Ls.length ∧ SeenC ags.length (asAll ags p) k g) (fun g => Ls.length - g) (fun g => [(0, .slice A ags.length c), (1, .int .i64 (p : Int)), (7, .slice (some ⟨bP0, 0, none⟩) 64 64), (8, .int .i64 (k : Int)), (9, .slice lA Ls.length lc), (10, .int .i64 (g : Int))]) (fun g => .row 25 1 lA Ls.length lc (Ls.map Sl.val) :: .row 3 1 (some ⟨bP0, 0, none⟩) 64 64 (ints L0) :: (Ls.map Sl.res ++ [])) (0) ⟨Nat.zero_le _, hk.2⟩ (by repeat (first | exact Sub.nil _ | refine Sub.cons rfl ?_)) (Pck.cons (.here _) (Pck.perm List.perm_append_comm (Pck.cons (.here _) (by rw [List.append_nil]; exact Pck.refl _)))) ?_
  rintro i hi
  (try dsimp only at hi ⊢)
  refine cod_seq ?_
  refine cod_seq ?_
  refine cod_region ?_
  refine lst_move rfl rfl ?_
  refine lst_move rfl rfl ?_
  refine lst_len rfl rfl Tryd.underlying49 ?_
  refine lst_int rfl rfl rfl bin_lss ?_
  refine lst_nil ?_
  refine ex_then ?_
  refine cod_cond_dec rfl (fun hc1 => ?_) (fun hc1 => ?_)
  · skip
    have hil : i < Ls.length := by omega
    have hL1 := chs_le (n := ags.length) (k := k) (f := 0) (by omega) (by omega)
    obtain ⟨s, hs⟩ : ∃ s, Ls[i]? = some s := ⟨_, List.getElem?_eq_getElem hil⟩
    have hsx : (chsL ags.length k 0)[i]? = some s.l := by rw [← hLs, List.getElem?_map, hs]; rfl
    have hsm : s ∈ Ls := List.mem_of_getElem? hs
    have hsc := chs_mem (List.mem_of_getElem? hsx)
    have hsl := hsc.1
    have hsr := chs_sorted (List.mem_of_getElem? hsx)
    have hokO := onlyL_ok hok (l := s.l) (by omega) (fun i hi => (hsc.2 i hi).2)
    refine cod_know (φ := ∃ g, lA = some ⟨g, 0, none⟩) (fun a w ha => row_some (ha.own _ (InR.mem (A := lA))) (by omega)) (fun hgL => ?_)
    obtain ⟨gL, rfl⟩ := hgL
    refine cod_skip ?_
    refine ex_then ?_
    refine cod_seq ?_
    refine cod_block ?_
    refine cod_seq ?_
    refine cod_region ?_
    refine lst_move rfl rfl ?_
    refine lst_move rfl rfl ?_
    refine lst_move rfl rfl ?_
    refine lst_index (j := i) rfl rfl rfl Tryd.underlying49 F.ti25 rfl hil ?_
    refine lst_load_at (v := .slice s.A s.l.length s.c) rfl rfl F.one25 (fun a w ha => row_cell ha (InR.mem (A := (some ⟨gL, 0, none⟩))) rfl (by rw [Nat.zero_add]; exact vals_get hs)) ?_
    refine lst_fn (X := Option Addr × Nat) (vs := [_, _]) (p := fun _ => True) (val := fun y => .slice y.1 (onlyL ags s.l).length y.2) (rs := fun y => [.row 24 5 y.1 (onlyL ags s.l).length y.2 ((onlyL ags s.l).flatMap Ag.cells)]) rfl rfl F.ent70 (fun a w ha => (Only_c A s.A c s.c ags s.l (by omega) (fun i hi => (hsc.2 i hi).2) w (hA.later ha.below) (row_reads ha (cells := ncell) (size := 1) (e := 3) (c := s.c) (n := s.l.length) (fun _ => rfl) (by have hm : s.res ∈ Ls.map Sl.res := List.mem_map.2 ⟨s, hsm, rfl⟩; rw [← ints_flat]; simp [hm, ← show s.res = Res.row 3 1 s.A s.l.length s.c (ints s.l) from rfl]) rfl)).mono (fun e w' h => by obtain ⟨A', c', h1, h2⟩ := h; exact ⟨(A', c'), trivial, h1, h2⟩)) ?_
    rintro ⟨oA, oc⟩ -
    dsimp only [List.cons_append, List.nil_append]
    refine lst_move rfl rfl ?_
    refine lst_fn (X := List Nat × Nat) (vs := [_, _, _]) (p := fun y => Dst (onlyL ags s.l) (usedAll (onlyL ags s.l).length) p y.1) (val := fun y => .slice (some ⟨y.2, 0, none⟩) 64 64) (rs := fun y => [.row 3 1 (some ⟨y.2, 0, none⟩) 64 64 (ints y.1)]) rfl rfl F.ent103 (fun a w ha => (rPuts_c oA oc (onlyL ags s.l) hokO p hp (usedAll (onlyL ags s.l).length) (-1) (fun i hi => by rw [usedAll_bit]; simp [hi]) w (row_reads ha (cells := Ag.cells) (size := 5) (e := 24) (c := oc) (n := (onlyL ags s.l).length) (fun _ => rfl) (InR.mem (A := oA)) rfl)).mono (fun e w' h => by obtain ⟨L, b, h1, h2, h3⟩ := h; exact ⟨(L, b), h1, h2, h3⟩)) ?_
    rintro ⟨L1, bP1⟩ hD1
    dsimp only [List.cons_append, List.nil_append] at hD1 ⊢
    have hll1 := hD1.len
    refine lst_assign rfl rfl ?_
    refine lst_assign rfl rfl ?_
    refine lst_nil ?_
    refine ex_then ?_
    refine cod_seq ?_
    refine cod_seq ?_
    refine cod_region ?_
    refine lst_assign rfl rfl ?_
    refine lst_nil ?_
    refine ex_then ?_
    refine cod_block ?_
    refine cod_loop' (G := Nat) (fun g => g ≤ 64) (fun g => 64 - g) (fun g => [(0, .slice A ags.length c), (1, .int .i64 (p : Int)), (7, .slice (some ⟨bP0, 0, none⟩) 64 64), (8, .int .i64 (k : Int)), (9, .slice (some ⟨gL, 0, none⟩) Ls.length lc), (10, .int .i64 (i : Int)), (11, .slice (some ⟨bP1, 0, none⟩) 64 64), (12, .bool (sameL L1 L0 g)), (13, .int .i64 (g : Int))]) (fun g => .row 3 1 (some ⟨bP1, 0, none⟩) 64 64 (ints L1) :: .row 25 1 (some ⟨gL, 0, none⟩) Ls.length lc (Ls.map Sl.val) :: .row 3 1 (some ⟨bP0, 0, none⟩) 64 64 (ints L0) :: (Ls.map Sl.res ++ [])) (0) (Nat.zero_le _) (by repeat (first | exact Sub.nil _ | refine Sub.cons rfl ?_)) (by repeat (first | exact Pck.nil _ | exact Pck.refl _ | (apply Pck.cons; focus ((repeat (first | exact Rem.here _ | apply Rem.there)); done)) | refine Pck.skip _ ?_)) ?_
    rintro m hm
    (try dsimp only at hm ⊢)
    refine cod_seq ?_
    refine cod_seq ?_
    refine cod_region ?_
    refine lst_move rfl rfl ?_
    refine lst_int rfl rfl rfl bin_leq ?_
    refine lst_nil ?_
    refine ex_then ?_
    refine cod_cond_dec rfl (fun hc2 => ?_) (fun hc2 => ?_)
    · skip
      have hm6 : m < 64 := by omega
      obtain ⟨n1, hn1⟩ : ∃ n, L0[m]? = some n := ⟨_, List.getElem?_eq_getElem (by omega)⟩
      have hd1 : L0.getD m 0 = n1 := by rw [List.getD_eq_getElem?_getD, hn1]; rfl
      have hfar1 := hD0.far m hm6
      rw [hd1] at hfar1
      unfold farN at hfar1
      obtain ⟨n2, hn2⟩ : ∃ n, L1[m]? = some n := ⟨_, List.getElem?_eq_getElem (by omega)⟩
      have hd2 : L1.getD m 0 = n2 := by rw [List.getD_eq_getElem?_getD, hn2]; rfl
      have hfar2 := hD1.far m hm6
      rw [hd2] at hfar2
      unfold farN at hfar2
      have hss := sameL_succ L1 L0 m
      rw [hd1, hd2] at hss
      refine cod_skip ?_
      refine ex_then ?_
      refine cod_seq ?_
      refine cod_block ?_
      refine any_begin [] F.follows 15 rfl [false, false, false, false, false, false, false, false, false, false, false, false, false, false, false] rfl ?_
      refine any_take (listed' := [true, false, false, false, false, false, false, false, false, false, false, false, false, false, false].toArray) 0 rfl rfl rfl (by kernel_rfl) (by kernel_rfl) (by kernel_rfl) (by repeat (first | exact List.Sublist.refl _ | exact List.nil_sublist _ | refine List.Sublist.cons_cons _ ?_ | refine List.Sublist.cons _ ?_)) (yld_move rfl) rfl ?_
      refine any_take (listed' := [true, true, false, false, false, false, false, false, false, false, false, false, false, false, false].toArray) 1 rfl rfl rfl (by kernel_rfl) (by kernel_rfl) (by kernel_rfl) (by repeat (first | exact List.Sublist.refl _ | exact List.nil_sublist _ | refine List.Sublist.cons_cons _ ?_ | refine List.Sublist.cons _ ?_)) (yld_move rfl) rfl ?_
      refine any_split_bool (t := 48) rfl (fun hg48 => ?_) (fun hg48 => ?_)
      · skip
        refine any_take_on (listed' := [true, true, true, false, false, false, false, false, false, false, false, false, false, false, false].toArray) 2 rfl rfl rfl rfl rfl (by kernel_rfl) (by kernel_rfl) (by kernel_rfl) (by repeat (first | exact List.Sublist.refl _ | exact List.nil_sublist _ | refine List.Sublist.cons_cons _ ?_ | refine List.Sublist.cons _ ?_)) (yld_move rfl) rfl ?_
        refine any_take_on (listed' := [true, true, true, true, false, false, false, false, false, false, false, false, false, false, false].toArray) 3 rfl rfl rfl rfl rfl (by kernel_rfl) (by kernel_rfl) (by kernel_rfl) (by repeat (first | exact List.Sublist.refl _ | exact List.nil_sublist _ | refine List.Sublist.cons_cons _ ?_ | refine List.Sublist.cons _ ?_)) (yld_move rfl) rfl ?_
        refine any_take_on (listed' := [true, true, true, true, true, false, false, false, false, false, false, false, false, false, false].toArray) 4 rfl rfl rfl rfl rfl (by kernel_rfl) (by kernel_rfl) (by kernel_rfl) (by repeat (first | exact List.Sublist.refl _ | exact List.nil_sublist _ | refine List.Sublist.cons_cons _ ?_ | refine List.Sublist.cons _ ?_)) (yld_index (j := m) rfl rfl Tryd.underlying25 F.ti3 rfl hm6) rfl ?_
        refine any_take_on (listed' := [true, true, true, true, true, true, false, false, false, false, false, false, false, false, false].toArray) 5 rfl rfl rfl rfl rfl (by kernel_rfl) (by kernel_rfl) (by kernel_rfl) (by repeat (first | exact List.Sublist.refl _ | exact List.nil_sublist _ | refine List.Sublist.cons_cons _ ?_ | refine List.Sublist.cons _ ?_)) (yld_load_at (v := .int .i64 (n2 : Int)) rfl F.one3 (fun a w ha => row_cell ha (InR.mem (A := (some ⟨bP1, 0, none⟩))) rfl (by rw [Nat.zero_add]; exact ints_get hn2))) rfl ?_
        refine any_take_on (listed' := [true, true, true, true, true, true, true, false, false, false, false, false, false, false, false].toArray) 6 rfl rfl rfl rfl rfl (by kernel_rfl) (by kernel_rfl) (by kernel_rfl) (by repeat (first | exact List.Sublist.refl _ | exact List.nil_sublist _ | refine List.Sublist.cons_cons _ ?_ | refine List.Sublist.cons _ ?_)) (yld_int rfl rfl bin_eql) rfl ?_
        refine any_take_on (listed' := [true, true, true, true, true, true, true, true, false, false, false, false, false, false, false].toArray) 7 rfl rfl rfl rfl rfl (by kernel_rfl) (by kernel_rfl) (by kernel_rfl) (by repeat (first | exact List.Sublist.refl _ | exact List.nil_sublist _ | refine List.Sublist.cons_cons _ ?_ | refine List.Sublist.cons _ ?_)) (yld_move rfl) rfl ?_
        refine any_take_on (listed' := [true, true, true, true, true, true, true, true, true, false, false, false, false, false, false].toArray) 8 rfl rfl rfl rfl rfl (by kernel_rfl) (by kernel_rfl) (by kernel_rfl) (by repeat (first | exact List.Sublist.refl _ | exact List.nil_sublist _ | refine List.Sublist.cons_cons _ ?_ | refine List.Sublist.cons _ ?_)) (yld_move rfl) rfl ?_
        refine any_take_on (listed' := [true, true, true, true, true, true, true, true, true, true, false, false, false, false, false].toArray) 9 rfl rfl rfl rfl rfl (by kernel_rfl) (by kernel_rfl) (by kernel_rfl) (by repeat (first | exact List.Sublist.refl _ | exact List.nil_sublist _ | refine List.Sublist.cons_cons _ ?_ | refine List.Sublist.cons _ ?_)) (yld_index (j := m) rfl rfl Tryd.underlying25 F.ti3 rfl hm6) rfl ?_
        refine any_take_on (listed' := [true, true, true, true, true, true, true, true, true, true, true, false, false, false, false].toArray) 10 rfl rfl rfl rfl rfl (by kernel_rfl) (by kernel_rfl) (by kernel_rfl) (by repeat (first | exact List.Sublist.refl _ | exact List.nil_sublist _ | refine List.Sublist.cons_cons _ ?_ | refine List.Sublist.cons _ ?_)) (yld_load_at (v := .int .i64 (n1 : Int)) rfl F.one3 (fun a w ha => row_cell ha (InR.mem (A := (some ⟨bP0, 0, none⟩))) rfl (by rw [Nat.zero_add]; exact ints_get hn1))) rfl ?_
        refine any_take_on (listed' := [true, true, true, true, true, true, true, true, true, true, true, true, false, false, false].toArray) 11 rfl rfl rfl rfl rfl (by kernel_rfl) (by kernel_rfl) (by kernel_rfl) (by repeat (first | exact List.Sublist.refl _ | exact List.nil_sublist _ | refine List.Sublist.cons_cons _ ?_ | refine List.Sublist.cons _ ?_)) (yld_int rfl rfl bin_eql) rfl ?_
        refine any_take_on (listed' := [true, true, true, true, true, true, true, true, true, true, true, true, true, false, false].toArray) 12 rfl rfl rfl rfl rfl (by kernel_rfl) (by kernel_rfl) (by kernel_rfl) (by repeat (first | exact List.Sublist.refl _ | exact List.nil_sublist _ | refine List.Sublist.cons_cons _ ?_ | refine List.Sublist.cons _ ?_)) (yld_bin rfl rfl (run_eqb Tryd.underlying4 _ _ _ _)) rfl ?_
        refine any_take (listed' := [true, true, true, true, true, true, true, true, true, true, true, true, true, true, false].toArray) 13 rfl rfl rfl (by kernel_rfl) (by kernel_rfl) (by kernel_rfl) (by repeat (first | exact List.Sublist.refl _ | exact List.nil_sublist _ | refine List.Sublist.cons_cons _ ?_ | refine List.Sublist.cons _ ?_)) (yld_pick_true rfl rfl) rfl ?_
        refine any_take (listed' := [true, true, true, true, true, true, true, true, true, true, true, true, true, true, true].toArray) 14 rfl rfl rfl (by kernel_rfl) (by kernel_rfl) (by kernel_rfl) (by repeat (first | exact List.Sublist.refl _ | exact List.nil_sublist _ | refine List.Sublist.cons_cons _ ?_ | refine List.Sublist.cons _ ?_)) (yld_assign rfl) rfl ?_
        refine any_done rfl (by kernel_rfl) ?_
        refine ex_block_normal ?_
        refine ex_then ?_
        refine cod_region ?_
        refine lst_move rfl rfl ?_
        refine lst_int rfl rfl rfl (fun w => bin_add w (wrap_i64' _ (by omega) (by omega))) ?_
        refine lst_assign rfl rfl ?_
        refine lst_nil ?_
        have e : sameL L1 L0 (m + 1) = (decide ((n2 : Int) = 1048576) == decide ((n1 : Int) = 1048576)) := by
          rw [hss, hg48, Bool.true_and]
          unfold farN
          congr 1 <;> exact decide_eq_decide.2 (by omega)
        refine ex_round' (m + 1) (by (try dsimp only); omega) (by (try dsimp only); omega) (by (try dsimp only); rw [e]; repeat (first | exact Sub.nil _ | refine Sub.cons rfl ?_)) (by repeat (first | exact Pck.nil _ | exact Pck.refl _ | (apply Pck.cons; focus ((repeat (first | exact Rem.here _ | apply Rem.there)); done)) | refine Pck.skip _ ?_))
      · skip
        refine any_take_off (listed' := [true, true, true, false, false, false, false, false, false, false, false, false, false, false, false].toArray) 2 rfl rfl rfl rfl rfl (by kernel_rfl) (by kernel_rfl) (by kernel_rfl) (by repeat (first | exact List.Sublist.refl _ | exact List.nil_sublist _ | refine List.Sublist.cons_cons _ ?_ | refine List.Sublist.cons _ ?_)) rfl ?_
        refine any_take_off (listed' := [true, true, true, true, false, false, false, false, false, false, false, false, false, false, false].toArray) 3 rfl rfl rfl rfl rfl (by kernel_rfl) (by kernel_rfl) (by kernel_rfl) (by repeat (first | exact List.Sublist.refl _ | exact List.nil_sublist _ | refine List.Sublist.cons_cons _ ?_ | refine List.Sublist.cons _ ?_)) rfl ?_
        refine any_take_off (listed' := [true, true, true, true, true, false, false, false, false, false, false, false, false, false, false].toArray) 4 rfl rfl rfl rfl rfl (by kernel_rfl) (by kernel_rfl) (by kernel_rfl) (by repeat (first | exact List.Sublist.refl _ | exact List.nil_sublist _ | refine List.Sublist.cons_cons _ ?_ | refine List.Sublist.cons _ ?_)) rfl ?_
        refine any_take_off (listed' := [true, true, true, true, true, true, false, false, false, false, false, false, false, false, false].toArray) 5 rfl rfl rfl rfl rfl (by kernel_rfl) (by kernel_rfl) (by kernel_rfl) (by repeat (first | exact List.Sublist.refl _ | exact List.nil_sublist _ | refine List.Sublist.cons_cons _ ?_ | refine List.Sublist.cons _ ?_)) rfl ?_
        refine any_take_off (listed' := [true, true, true, true, true, true, true, false, false, false, false, false, false, false, false].toArray) 6 rfl rfl rfl rfl rfl (by kernel_rfl) (by kernel_rfl) (by kernel_rfl) (by repeat (first | exact List.Sublist.refl _ | exact List.nil_sublist _ | refine List.Sublist.cons_cons _ ?_ | refine List.Sublist.cons _ ?_)) rfl ?_
        refine any_take_off (listed' := [true, true, true, true, true, true, true, true, false, false, false, false, false, false, false].toArray) 7 rfl rfl rfl rfl rfl (by kernel_rfl) (by kernel_rfl) (by kernel_rfl) (by repeat (first | exact List.Sublist.refl _ | exact List.nil_sublist _ | refine List.Sublist.cons_cons _ ?_ | refine List.Sublist.cons _ ?_)) rfl ?_
        refine any_take_off (listed' := [true, true, true, true, true, true, true, true, true, false, false, false, false, false, false].toArray) 8 rfl rfl rfl rfl rfl (by kernel_rfl) (by kernel_rfl) (by kernel_rfl) (by repeat (first | exact List.Sublist.refl _ | exact List.nil_sublist _ | refine List.Sublist.cons_cons _ ?_ | refine List.Sublist.cons _ ?_)) rfl ?_
        refine any_take_off (listed' := [true, true, true, true, true, true, true, true, true, true, false, false, false, false, false].toArray) 9 rfl rfl rfl rfl rfl (by kernel_rfl) (by kernel_rfl) (by kernel_rfl) (by repeat (first | exact List.Sublist.refl _ | exact List.nil_sublist _ | refine List.Sublist.cons_cons _ ?_ | refine List.Sublist.cons _ ?_)) rfl ?_
        refine any_take_off (listed' := [true, true, true, true, true, true, true, true, true, true, true, false, false, false, false].toArray) 10 rfl rfl rfl rfl rfl (by kernel_rfl) (by kernel_rfl) (by kernel_rfl) (by repeat (first | exact List.Sublist.refl _ | exact List.nil_sublist _ | refine List.Sublist.cons_cons _ ?_ | refine List.Sublist.cons _ ?_)) rfl ?_
        refine any_take_off (listed' := [true, true, true, true, true, true, true, true, true, true, true, true, false, false, false].toArray) 11 rfl rfl rfl rfl rfl (by kernel_rfl) (by kernel_rfl) (by kernel_rfl) (by repeat (first | exact List.Sublist.refl _ | exact List.nil_sublist _ | refine List.Sublist.cons_cons _ ?_ | refine List.Sublist.cons _ ?_)) rfl ?_
        refine any_take_off (listed' := [true, true, true, true, true, true, true, true, true, true, true, true, true, false, false].toArray) 12 rfl rfl rfl rfl rfl (by kernel_rfl) (by kernel_rfl) (by kernel_rfl) (by repeat (first | exact List.Sublist.refl _ | exact List.nil_sublist _ | refine List.Sublist.cons_cons _ ?_ | refine List.Sublist.cons _ ?_)) rfl ?_
        refine any_take (listed' := [true, true, true, true, true, true, true, true, true, true, true, true, true, true, false].toArray) 13 rfl rfl rfl (by kernel_rfl) (by kernel_rfl) (by kernel_rfl) (by repeat (first | exact List.Sublist.refl _ | exact List.nil_sublist _ | refine List.Sublist.cons_cons _ ?_ | refine List.Sublist.cons _ ?_)) (yld_pick_false rfl rfl) rfl ?_
        refine any_take (listed' := [true, true, true, true, true, true, true, true, true, true, true, true, true, true, true].toArray) 14 rfl rfl rfl (by kernel_rfl) (by kernel_rfl) (by kernel_rfl) (by repeat (first | exact List.Sublist.refl _ | exact List.nil_sublist _ | refine List.Sublist.cons_cons _ ?_ | refine List.Sublist.cons _ ?_)) (yld_assign rfl) rfl ?_
        refine any_done rfl (by kernel_rfl) ?_
        refine ex_block_normal ?_
        refine ex_then ?_
        refine cod_region ?_
        refine lst_move rfl rfl ?_
        refine lst_int rfl rfl rfl (fun w => bin_add w (wrap_i64' _ (by omega) (by omega))) ?_
        refine lst_assign rfl rfl ?_
        refine lst_nil ?_
        have e : sameL L1 L0 (m + 1) = false := by rw [hss, hg48, Bool.false_and]
        refine ex_round' (m + 1) (by (try dsimp only); omega) (by (try dsimp only); omega) (by (try dsimp only); rw [e]; repeat (first | exact Sub.nil _ | refine Sub.cons rfl ?_)) (by repeat (first | exact Pck.nil _ | exact Pck.refl _ | (apply Pck.cons; focus ((repeat (first | exact Rem.here _ | apply Rem.there)); done)) | refine Pck.skip _ ?_))
    · skip
      obtain rfl : m = 64 := by omega
      have hP := sameL_iff hD1 hD0
      refine cod_exit ?_
      refine ex_then_exit ?_
      refine ex_then_exit ?_
      refine ex_block_exit ?_
      refine ex_then ?_
      refine cod_seq ?_
      refine cod_region ?_
      refine lst_move rfl rfl ?_
      refine lst_nil ?_
      refine ex_then ?_
      refine cod_cond_bool rfl (fun hc3 => ?_) (fun hc3 => ?_)
      · skip
        refine cod_seq ?_
        refine cod_region ?_
        refine lst_move rfl rfl ?_
        refine lst_move rfl rfl ?_
        refine lst_index (j := i) rfl rfl rfl Tryd.underlying49 F.ti25 rfl hil ?_
        refine lst_load_at (v := .slice s.A s.l.length s.c) rfl rfl F.one25 (fun a w ha => row_cell ha (InR.mem (A := (some ⟨gL, 0, none⟩))) rfl (by rw [Nat.zero_add]; exact vals_get hs)) ?_
        refine lst_assign rfl rfl ?_
        refine lst_assign rfl rfl ?_
        refine lst_nil ?_
        refine ex_then ?_
        refine cod_ret ?_
        refine ex_block_ret ?_
        refine ex_then_ret ?_
        refine ex_then_ret ?_
        refine ex_block_ret ?_
        refine ex_block_ret ?_
        refine ex_then_ret ?_
        refine ex_then_ret ?_
        refine ex_block_ret ?_
        exact ex_ret rfl (fun a w ha => res_two rfl rfl rfl ha) (fun a w ha => ⟨s.l, s.A, s.c, ⟨k, i, hsx, hP.1 hc3, hi.2⟩, ⟨hsr, fun i hi => (hsc.2 i hi).2⟩, rfl, (ha.grown (List.singleton_sublist.2 (List.mem_cons_of_mem _ (List.mem_cons_of_mem _ (List.mem_cons_of_mem _ (List.mem_append_left _ (List.mem_map.2 ⟨s, hsm, rfl⟩)))))))⟩)
      · skip
        refine cod_skip ?_
        refine ex_block_normal ?_
        refine ex_then ?_
        refine cod_region ?_
        refine lst_move rfl rfl ?_
        refine lst_int rfl rfl rfl (fun w => bin_add w (wrap_i64' _ (by omega) (by omega))) ?_
        refine lst_assign rfl rfl ?_
        refine lst_nil ?_
        refine ex_round' (i + 1) ⟨by omega, hi.2.next hsx (fun h => by rw [hP.2 h] at hc3; cases hc3)⟩ (by (try dsimp only); omega) (by repeat (first | exact Sub.nil _ | refine Sub.cons rfl ?_)) (by repeat (first | exact Pck.nil _ | exact Pck.refl _ | (apply Pck.cons; focus ((repeat (first | exact Rem.here _ | apply Rem.there)); done)) | refine Pck.skip _ ?_))
  · skip
    have hseen := hi.2.round (by omega)
    have htop := hseen.top
    refine cod_exit ?_
    refine ex_then_exit ?_
    refine ex_then_exit ?_
    refine ex_block_exit ?_
    refine ex_block_normal ?_
    refine ex_then ?_
    refine cod_region ?_
    refine lst_move rfl rfl ?_
    refine lst_int rfl rfl rfl (fun w => bin_add w (wrap_i64' _ (by omega) (by omega))) ?_
    refine lst_assign rfl rfl ?_
    refine lst_nil ?_
    refine ex_round (k + 1) ⟨htop, hseen⟩ (by (try dsimp only); omega) (by repeat (first | exact Sub.nil _ | refine Sub.cons rfl ?_)) (List.singleton_sublist.2 (List.mem_cons_of_mem _ (List.mem_cons_self ..)))

theorem rFewest_bad (A : Option Addr) (c : Nat) (l : List RA) (p : Int) (hn : askedR l 0 p ≠ 0) (w : World) (hA : RdL RA.cells 5 w A l) : Calls Tryd.prog 68 #[.slice A l.length c, .int .i64 p] w fun e w' => e = .returned (.tuple #[.slice none 0 0, .int .i64 ((askedR l 0 p : Nat) : Int)]) ∧ Grew w w' [] := by
  refine enter (N := 66) [(0, .slice A l.length c), (1, .int .i64 p)] Tryd.func68 rfl Tryd.ntmps68 rfl rfl ?_
  refine cod_seq ?_
  refine cod_region ?_
  refine lst_assign rfl rfl ?_
  refine lst_assign rfl rfl ?_
  refine lst_nil ?_
  refine ex_then ?_
  refine cod_seq ?_
  refine cod_seq ?_
  refine cod_region ?_
  refine lst_move rfl rfl ?_
  refine lst_move rfl rfl ?_
  refine lst_fn0 (vs := [_, _, _]) rfl rfl F.ent86 (fun a w ha => asked_c A c l 0 p w (hA.later ha.below)) ?_
  refine lst_assign rfl rfl ?_
  refine lst_nil ?_
  refine ex_then ?_
  refine cod_seq ?_
  refine cod_region ?_
  refine lst_move rfl rfl ?_
  refine lst_int rfl rfl rfl bin_neq ?_
  refine lst_nil ?_
  refine ex_then ?_
  refine cod_cond_dec rfl (fun hc0 => ?_) (fun hc0 => ?_)
  · skip
    refine cod_seq ?_
    refine cod_region ?_
    refine lst_move rfl rfl ?_
    refine lst_assign rfl rfl ?_
    refine lst_assign rfl rfl ?_
    refine lst_nil ?_
    refine ex_then ?_
    refine cod_ret ?_
    refine ex_then_ret ?_
    exact ex_ret rfl (fun a w ha => res_two rfl rfl rfl ha) (fun a w ha => ⟨rfl, ha.grown (List.nil_sublist _)⟩)
  · skip
    exact absurd hn (by omega) -- done

theorem Fewest_bad (A : Option Addr) (c : Nat) (l : List RA) (hn : checkR l ≠ 0) (n0 : Int) (w : World) (hA : RdL RA.cells 5 w A l) : Calls Tryd.prog 67 #[.slice A l.length c, .int .i64 n0] w fun e w' => e = .returned (.tuple #[.slice none 0 0, .int .i64 ((checkR l : Nat) : Int)]) ∧ Grew w w' [] := by
  refine enter_defers (N := 50) [(0, .slice A l.length c), (1, .int .i64 n0)] Tryd.func67 rfl Tryd.ntmps67 rfl rfl ?_
  refine cod_seq ?_
  refine cod_region ?_
  refine lst_alloc rfl F.ti25 ?_
  intro b4
  refine lst_alloc rfl F.ti35 ?_
  intro b5
  refine lst_nil ?_
  refine ex_then ?_
  refine cod_seq ?_
  refine cod_region ?_
  refine lst_defer (first := []) (cap := []) (vs := [_]) rfl rfl ?_
  refine lst_nil ?_
  refine ex_then ?_
  refine cod_seq ?_
  refine cod_region ?_
  refine lst_move rfl rfl ?_
  refine lst_fn_panics (vs := [_]) rfl F.ent75 (fun a w ha => begin_bad A c l hn w (hA.later ha.below)) ?_
  refine ex_then_panic ?_
  exact ex_panic_caught (fun a w ha => ⟨_, res_cc (C := ⟨Tryd.prog, _, _, _, _⟩) (fn := Tryd.f67) rfl rfl rfl F.one25 F.one35 ha, rfl, ha.grown (by repeat (first | exact List.Sublist.refl _ | exact List.nil_sublist _ | refine List.Sublist.cons_cons _ ?_ | refine List.Sublist.cons _ ?_))⟩)

theorem Fewest_bad0 (A : Option Addr) (c : Nat) (ags : List Ag) (hok : Oks ags) (n0 : Int) (hn0 : inB n0 0 63 = false) (w : World) (hA : RdL Ag.cells 5 w A ags) : Calls Tryd.prog 67 #[.slice A ags.length c, .int .i64 n0] w fun e w' => e = .returned (.tuple #[.slice none 0 0, .int .i64 1]) ∧ Grew w w' [] := by
  have hua : usedAll ags.length < 256 := by have := usedAll_lt hok.1; omega
  refine enter_defers (N := 50) [(0, .slice A ags.length c), (1, .int .i64 n0)] Tryd.func67 rfl Tryd.ntmps67 rfl rfl ?_
  refine cod_seq ?_
  refine cod_region ?_
  refine lst_alloc rfl F.ti25 ?_
  intro b4
  refine lst_alloc rfl F.ti35 ?_
  intro b5
  refine lst_nil ?_
  refine ex_then ?_
  refine cod_seq ?_
  refine cod_region ?_
  refine lst_defer (first := []) (cap := []) (vs := [_]) rfl rfl ?_
  refine lst_nil ?_
  refine ex_then ?_
  refine cod_seq ?_
  refine cod_region ?_
  refine lst_move rfl rfl ?_
  refine lst_fn (X := Option Addr × Nat) (vs := [_]) (p := fun _ => True) (val := fun x => .agg [.slice x.1 ags.length x.2, .int .u8 (usedAll ags.length : Nat)].toArray) (rs := fun x => [.row 89 5 x.1 ags.length x.2 (ags.flatMap Ag.cells)]) rfl rfl F.ent75 (fun a w ha => (begin_ok A c ags hok w (hA.later ha.below)).mono (fun e w' h => by obtain ⟨A', c', h1, h2⟩ := h; exact ⟨(A', c'), trivial, h1, h2⟩)) ?_
  rintro ⟨aA, cg⟩ -
  dsimp only [List.cons_append, List.nil_append]
  refine lst_alloc rfl F.ti75 ?_
  intro b6
  refine lst_store rfl rfl F.ti75 rfl ?_
  refine lst_nil ?_
  refine ex_then ?_
  refine cod_seq ?_
  refine cod_region ?_
  refine lst_move rfl rfl ?_
  refine lst_fn_panics (vs := [_]) rfl F.ent76 (fun a w ha => melt_bad n0 hn0 w) ?_
  refine ex_then_panic ?_
  exact ex_panic_caught (fun a w ha => ⟨_, res_cc (C := ⟨Tryd.prog, _, _, _, _⟩) (fn := Tryd.f67) rfl rfl rfl F.one25 F.one35 ha, rfl, ha.grown (by repeat (first | exact List.Sublist.refl _ | exact List.nil_sublist _ | refine List.Sublist.cons_cons _ ?_ | refine List.Sublist.cons _ ?_))⟩)

end Go.Proofs.YtofkhehcnfiopaaDoor.N
namespace Go.Proofs.YtofkhehcnfiopaaDoor.N
open Go Go.RowKit Go.Proofs
theorem SetOk.len {n : Nat} {v : List Nat} (h : SetOk n v) : v.length ≤ n := by
  have h1 := outL_all h.1 h.2
  rw [← h1]
  exact outL_len v n
/-- What Fewest says. -/
def FewSay (l : List RA) (p : Int) (W : List Nat) (E : Nat) : Prop :=
  (askedR l 0 p = 0 ∧ E = 0 ∧ FewS l.length (asAll (agsOf l) p.toNat) W ∧ W.length ≤ 4) ∨ (askedR l 0 p ≠ 0 ∧ E = askedR l 0 p ∧ W = [])
theorem FewSay.unique {l : List RA} {p : Int} {W W' : List Nat} {E E' : Nat} (h : FewSay l p W E) (h' : FewSay l p W' E') : W = W' ∧ E = E' := by
  rcases h with ⟨h0, rfl, h1, _⟩ | ⟨h0, rfl, rfl⟩
  · rcases h' with ⟨_, rfl, h2, _⟩ | ⟨h2, _⟩
    · exact ⟨h1.unique h2, rfl⟩
    · exact absurd h0 h2
  · rcases h' with ⟨h2, _⟩ | ⟨_, rfl, rfl⟩
    · exact absurd h2 h0
    · exact ⟨rfl, rfl⟩
theorem FewSay.le {l : List RA} {p : Int} {W : List Nat} {E : Nat} (h : FewSay l p W E) : W.length ≤ 4 := by
  rcases h with ⟨_, _, _, h⟩ | ⟨_, _, rfl⟩
  · exact h
  · exact Nat.zero_le _
def FewC (l : List RA) (p : Int) (w : World) (e : Ending) (w' : World) : Prop := ∃ (W : List Nat) (E : Nat) (A' : Option Addr) (c' : Nat), FewSay l p W E ∧ e = .returned (.tuple #[.slice A' W.length c', .int .i64 (E : Int)]) ∧ Grew w w' [.row 3 1 A' W.length c' (ints W)]
theorem FewC.nil {l : List RA} {p : Int} {w w' : World} {E : Nat} {e : Ending} (h0 : askedR l 0 p ≠ 0) (hE : E = askedR l 0 p) (h : e = .returned (.tuple #[.slice none 0 0, .int .i64 (E : Int)]) ∧ Grew w w' []) : FewC l p w e w' :=
  ⟨[], E, none, 0, .inr ⟨h0, hE, rfl⟩, h.1, grew_nil h.2⟩
theorem few_ok {l : List RA} {p : Int} {q : Nat} {w w' : World} {e : Ending} (h0 : askedR l 0 p = 0) (hc : checkR l = 0) (hq : p.toNat = q) (h : ∃ (W : List Nat) (A' : Option Addr) (c' : Nat), FewS (agsOf l).length (asAll (agsOf l) q) W ∧ SetOk (agsOf l).length W ∧ e = .returned (.tuple #[.slice A' W.length c', .int .i64 0]) ∧ Grew w w' [.row 3 1 A' W.length c' (ints W)]) : FewC l p w e w' := by
  obtain ⟨W, A', c', h1, h2, h3, h4⟩ := h
  subst hq
  rw [agsOf_len] at h1 h2
  have h5 := h2.len
  have h6 := (checkR_oks hc).1
  rw [List.length_map] at h6
  exact ⟨W, 0, A', c', .inl ⟨h0, rfl, h1, by omega⟩, h3, h4⟩
theorem Fewest_all (A : Option Addr) (c : Nat) (l : List RA) (p : Int) (w : World) (hA : RdL RA.cells 5 w A l) : Calls Tryd.prog 67 #[.slice A l.length c, .int .i64 p] w (FewC l p w) := by
  by_cases hc : checkR l = 0
  · cases hq : inB p 0 63 with
    | true =>
      obtain ⟨q, rfl, hq'⟩ := nat_of_inB hq
      have h := Fewest_ok A c (agsOf l) (checkR_oks hc) q hq' w (hA.ag hc)
      rw [show (Value.slice A (agsOf l).length c) = .slice A l.length c by rw [agsOf_len]] at h
      exact h.mono fun e w' h => few_ok (askedR_ok0 hc hq) hc (Int.toNat_natCast q) h
    | false =>
      have h1 := askedR_one (m := 0) (p := p) hc (.inr hq)
      have h := Fewest_bad0 A c (agsOf l) (checkR_oks hc) p hq w (hA.ag hc)
      rw [agsOf_len] at h
      exact h.mono fun e w' h => FewC.nil (E := 1) (by rw [h1]; decide) h1.symm h
  · have h1 := askedR_check (m := 0) (p := p) hc
    exact (Fewest_bad A c l hc p w hA).mono fun e w' h => FewC.nil (by rw [h1]; exact hc) h1.symm h
theorem rFewest_all (A : Option Addr) (c : Nat) (l : List RA) (p : Int) (w : World) (hA : RdL RA.cells 5 w A l) : Calls Tryd.prog 68 #[.slice A l.length c, .int .i64 p] w (FewC l p w) := by
  by_cases h0 : askedR l 0 p = 0
  · obtain ⟨hc, _, hq⟩ := askedR_zero h0
    obtain ⟨q, rfl, hq'⟩ := nat_of_inB hq
    have h := rFewest_ok A c (agsOf l) (checkR_oks hc) q hq' w (hA.ag hc)
    rw [show (Value.slice A (agsOf l).length c) = .slice A l.length c by rw [agsOf_len]] at h
    exact h.mono fun e w' h => few_ok h0 hc (Int.toNat_natCast q) h
  · exact (rFewest_bad A c l p h0 w hA).mono fun e w' h => FewC.nil h0 rfl h
end Go.Proofs.YtofkhehcnfiopaaDoor.N
namespace Go.Proofs.YtofkhehcnfiopaaDoor.N
open Go Go.RowKit Go.Proofs
theorem F.ent65 : Enters Tryd.prog 65 := enters_of Tryd.func65 rfl (by kernel_rfl)
theorem F.ent66 : Enters Tryd.prog 66 := enters_of Tryd.func66 rfl (by kernel_rfl)
theorem F.ent67 : Enters Tryd.prog 67 := enters_of Tryd.func67 rfl (by kernel_rfl)
theorem F.ent68 : Enters Tryd.prog 68 := enters_of Tryd.func68 rfl (by kernel_rfl)
theorem FiningHopes_c (A0 : Option Addr) (c0 : Nat) (lag : List RA) (x : RA) (pass : Int) (nA : Option Addr) (nc : Nat) (nums : List Int) (hwf : ∀ y ∈ lag, y.wf) (hxw : x.wf) (hn0 : A0 = none → lag = [] ∧ c0 = 0) (w : World) (hA : RdL RA.cells 5 w A0 lag) (hN : RdL icell 1 w nA nums) : Calls Tryd.prog 18 #[.slice A0 lag.length c0, .agg [.int .i64 x.needs, .int .i64 x.no, .int .i64 x.takes, .int .i64 x.leaves, .int .i64 x.cost].toArray, .int .i64 pass, .slice nA nums.length nc] w fun e w' => e = .returned (.bool true) ∧ Grew w w' [] := by
  refine enter (N := 159) [(0, .slice A0 lag.length c0), (1, .agg [.int .i64 x.needs, .int .i64 x.no, .int .i64 x.takes, .int .i64 x.leaves, .int .i64 x.cost].toArray), (2, .int .i64 pass), (3, .slice nA nums.length nc)] Tryd.func18 rfl Tryd.ntmps18 rfl rfl ?_
  refine cod_seq ?_
  refine cod_region ?_
  refine lst_box rfl rfl ?_
  intro b5
  refine lst_assign rfl rfl ?_
  refine lst_nil ?_
  refine ex_then ?_
  refine cod_seq ?_
  refine cod_seq ?_
  refine cod_region ?_
  refine lst_move rfl rfl ?_
  refine lst_len rfl rfl Tryd.underlying22 ?_
  refine lst_int rfl rfl rfl bin_gtr ?_
  refine lst_nil ?_
  refine ex_then ?_
  refine cod_cond_dec rfl (fun hc0 => ?_) (fun hc0 => ?_)
  · skip
    refine cod_seq ?_
    refine cod_region ?_
    refine lst_fn0 (vs := []) rfl rfl F.ent21 (fun a w ha => fined_c w) ?_
    refine lst_assign rfl rfl ?_
    refine lst_nil ?_
    refine ex_then ?_
    refine cod_ret ?_
    refine ex_then_ret ?_
    exact ex_ret rfl (fun a w ha => res_one rfl rfl ha) (fun a w ha => ⟨rfl, ha.grown (List.nil_sublist _)⟩)
  · skip
    have hlag : lag.length ≤ 20 := by omega
    refine cod_skip ?_
    refine ex_then ?_
    refine cod_seq ?_
    refine cod_region ?_
    refine lst_move rfl rfl ?_
    refine lst_fn (X := Nat) (vs := [_]) (p := fun _ => True) (val := fun b => .pointer (some ⟨b, 0, none⟩)) (rs := fun b => [.blk b (hatO nA nums.length nc 0 11400714819323198485)]) rfl rfl F.ent22 (fun a w ha => (NewHat_c nA nums.length nc w).mono (fun e w' h => by obtain ⟨b, h1, h2⟩ := h; exact ⟨b, trivial, h1, h2⟩)) ?_
    intro hb _
    dsimp only [List.cons_append, List.nil_append]
    refine lst_assign rfl rfl ?_
    refine lst_nil ?_
    refine ex_then ?_
    refine cod_seq ?_
    refine cod_region ?_
    refine lst_move rfl rfl ?_
    refine lst_loadN rfl rfl F.agg24 F.ti24 ?_
    refine lst_move rfl rfl ?_
    refine lst_call (X := Nat × Nat × Nat × List Ag × List Ag × Option Addr × Option Addr × Nat × Nat) (first := []) (cap := []) (vs := [_, _, _]) (p := fun y => y.1 ≤ 400 ∧ y.2.1 < 18446744073709551616 ∧ y.2.2.2.1.length ≤ 4 ∧ (∀ z ∈ y.2.2.2.1, z.ok) ∧ y.2.2.2.2.1.length ≤ 3 ∧ ∀ z ∈ y.2.2.2.2.1, z.ok) (val := fun y => .slice (some ⟨y.2.2.1, 0, none⟩) 3 3) (rs := fun y => .blk y.2.2.1 (.cells [.slice A0 lag.length c0, .slice y.2.2.2.2.2.1 y.2.2.2.1.length y.2.2.2.2.2.2.2.1, .slice y.2.2.2.2.2.2.1 (y.2.2.2.2.1.length + 1) y.2.2.2.2.2.2.2.2].toArray 22 (0, 0)) :: .row 24 5 y.2.2.2.2.2.1 y.2.2.2.1.length y.2.2.2.2.2.2.2.1 (y.2.2.2.1.flatMap Ag.cells) :: .row 24 5 y.2.2.2.2.2.2.1 (y.2.2.2.2.1.length + 1) y.2.2.2.2.2.2.2.2 (y.2.2.2.2.1.flatMap Ag.cells ++ [.int .i64 x.needs, .int .i64 x.no, .int .i64 x.takes, .int .i64 x.leaves, .int .i64 x.cost]) :: .blk hb (hatO nA nums.length nc y.1 y.2.1) :: []) rfl rfl rfl F.ent23 (fun a w ha => (several_c (C := ⟨Tryd.prog, _, _, _, _⟩) (T := []) (x := x) rfl rfl hN (tk := 0) (st := 11400714819323198485) (by omega) (by omega) (ha.pck (by repeat (first | exact Pck.nil _ | exact Pck.refl _ | (apply Pck.cons; focus ((repeat (first | exact Rem.here _ | apply Rem.there)); done)) | refine Pck.skip _ ?_)))).mono (fun e w' h => by obtain ⟨t', s', b, l1, l2, A1, A2, c1, c2, g1, g2, g3, g4, g5, g6, g7, g8⟩ := h; exact ⟨(t', s', b, l1, l2, A1, A2, c1, c2), ⟨by (try dsimp only); omega, g2, g3, g4, g5, g6⟩, g7, g8⟩)) ?_
    rintro ⟨t1, s1, bS, l1, l2, A1, A2, c1, c2⟩ ⟨ht1, hs1, hl1, ho1, hl2, ho2⟩
    dsimp only at ht1 hs1 hl1 ho1 hl2 ho2 ⊢
    obtain ⟨q1, hq1⟩ : ∃ q, q = l1.map Ag.raw := ⟨_, rfl⟩
    obtain ⟨q2, hq2⟩ : ∃ q, q = l2.map Ag.raw ++ [x] := ⟨_, rfl⟩
    have e1 : l1.length = q1.length := by rw [hq1, List.length_map]
    have e2 : l2.length + 1 = q2.length := by rw [hq2, List.length_append, List.length_map]; rfl
    have e3 : l1.flatMap Ag.cells = q1.flatMap RA.cells := by rw [hq1, raw_cells]
    have e4 : l2.flatMap Ag.cells ++ [.int .i64 x.needs, .int .i64 x.no, .int .i64 x.takes, .int .i64 x.leaves, .int .i64 x.cost] = q2.flatMap RA.cells := by rw [hq2, List.flatMap_append, raw_cells, List.flatMap_singleton]; rfl
    rw [e1, e2, e3, e4]
    have hw1 : ∀ y ∈ q1, y.wf := fun y hy => by rw [hq1] at hy; obtain ⟨z, hz, rfl⟩ := List.mem_map.1 hy; exact raw_wf (ho1 z hz)
    have hw2 : ∀ y ∈ q2, y.wf := fun y hy => by rw [hq2] at hy; exact (List.mem_append.1 hy).elim (fun h => by obtain ⟨z, hz, rfl⟩ := List.mem_map.1 h; exact raw_wf (ho2 z hz)) (fun h => by simp at h; subst h; exact hxw)
    have hp0 : (fun A c L => Rds RA.cells 5 ⟨Tryd.prog, w.heap.size, w, 0, []⟩ [.row 24 5 A1 q1.length c1 (q1.flatMap RA.cells), .row 24 5 A2 q2.length c2 (q2.flatMap RA.cells)] A L ∧ L.length ≤ 20 ∧ (∀ y ∈ L, y.wf) ∧ (A = none → L = [] ∧ c = 0)) A0 c0 lag := ⟨Rds.old hA rfl, hlag, hwf, hn0⟩
    refine lst_assign rfl rfl ?_
    refine lst_nil ?_
    refine ex_then ?_
    refine cod_seq ?_
    refine cod_region ?_
    refine lst_move rfl rfl ?_
    refine lst_move rfl rfl ?_
    refine lst_call_pul (X := Nat × Nat) (vs := [_, _]) hb (fun y => hatO nA nums.length nc (t1 + 4 + 4) (y.1)) (fun y => y.1 < 18446744073709551616 ∧ y.2 < 64) (fun y => .int .i64 (y.2 : Int)) rfl rfl F.ent26 (fun a w ha => (PassOf_c (C := ⟨Tryd.prog, _, _, _, _⟩) rfl rfl hN (tk := t1) (st := s1) (few := 4) (by omega) hs1 (by omega) ha).mono (fun e w' h => by obtain ⟨s', x, h1, h2, h3, h4⟩ := h; exact ⟨(s', x), ⟨h1, h2⟩, h3, h4⟩)) ?_
    rintro ⟨s2, z0⟩ ⟨hs2, hz0⟩
    dsimp only at hs2 hz0 ⊢
    refine lst_move rfl rfl ?_
    refine lst_call_pul (X := Nat × Nat) (vs := [_, _]) hb (fun y => hatO nA nums.length nc ((t1 + 4 + 4) + 3 + 3) (y.1)) (fun y => y.1 < 18446744073709551616 ∧ y.2 < 64) (fun y => .int .i64 (y.2 : Int)) rfl rfl F.ent26 (fun a w ha => (PassOf_c (C := ⟨Tryd.prog, _, _, _, _⟩) rfl rfl hN (tk := (t1 + 4 + 4)) (st := s2) (few := 3) (by omega) hs2 (by omega) ha).mono (fun e w' h => by obtain ⟨s', x, h1, h2, h3, h4⟩ := h; exact ⟨(s', x), ⟨h1, h2⟩, h3, h4⟩)) ?_
    rintro ⟨s3, z1⟩ ⟨hs3, hz1⟩
    dsimp only at hs3 hz1 ⊢
    refine lst_lit (vs := [(0, _), (1, _), (2, _)]) rfl rfl Tryd.underlying25 F.ti3 rfl rfl rfl ?_
    intro b39
    refine lst_assign rfl rfl ?_
    refine lst_nil ?_
    refine ex_then ?_
    refine cod_seq ?_
    refine cod_seq ?_
    refine cod_region ?_
    refine lst_assign rfl rfl ?_
    refine lst_nil ?_
    refine ex_then ?_
    refine cod_block ?_
    refine cod_loop' (G := Nat) (fun g => g ≤ 3) (fun g => 3 - g) (fun g => [(10, .slice (some ⟨bS, 0, none⟩) 3 3), (11, .slice (some ⟨b39, 0, none⟩) 3 3), (12, .int .i64 (g : Int))]) (fun g => .blk b39 (.cells [.int .i64 pass, .int .i64 (z0 : Int), .int .i64 (z1 : Int)].toArray 3 (0, 0)) :: .blk hb (hatO nA nums.length nc ((t1 + 4 + 4 + 3 + 3)) (s3)) :: .blk bS (.cells [.slice A0 lag.length c0, .slice A1 q1.length c1, .slice A2 q2.length c2].toArray 22 (0, 0)) :: .row 24 5 A1 q1.length c1 (q1.flatMap RA.cells) :: .row 24 5 A2 q2.length c2 (q2.flatMap RA.cells) :: []) (0) (Nat.zero_le _) (by repeat (first | exact Sub.nil _ | refine Sub.cons rfl ?_)) (by repeat (first | exact Pck.nil _ | exact Pck.refl _ | (apply Pck.cons; focus ((repeat (first | exact Rem.here _ | apply Rem.there)); done)) | refine Pck.skip _ ?_)) ?_
    rintro i hi
    (try dsimp only at hi ⊢)
    refine cod_seq ?_
    refine cod_seq ?_
    refine cod_region ?_
    refine lst_move rfl rfl ?_
    refine lst_move rfl rfl ?_
    refine lst_len rfl rfl Tryd.underlying29 ?_
    refine lst_int rfl rfl rfl bin_lss ?_
    refine lst_nil ?_
    refine ex_then ?_
    refine cod_cond_dec rfl (fun hc1 => ?_) (fun hc1 => ?_)
    · skip
      have hi3 : i < 3 := by omega
      refine cod_know (φ := A1 = none → q1.length = 0 ∧ c1 = 0) (fun a w ha h => row_none ha (InR.mem (A := A1)) h) (fun hn1 => ?_)
      refine cod_know (φ := A2 = none → q2.length = 0 ∧ c2 = 0) (fun a w ha h => row_none ha (InR.mem (A := A2)) h) (fun hn2 => ?_)
      have hp1 : (fun A c L => Rds RA.cells 5 ⟨Tryd.prog, w.heap.size, w, 0, []⟩ [.row 24 5 A1 q1.length c1 (q1.flatMap RA.cells), .row 24 5 A2 q2.length c2 (q2.flatMap RA.cells)] A L ∧ L.length ≤ 20 ∧ (∀ y ∈ L, y.wf) ∧ (A = none → L = [] ∧ c = 0)) A1 c1 q1 := ⟨Rds.row (e := 24) (c := c1) (fun _ => rfl) (by simp), by omega, hw1, fun h => ⟨List.length_eq_zero_iff.1 (hn1 h).1, (hn1 h).2⟩⟩
      have hp2 : (fun A c L => Rds RA.cells 5 ⟨Tryd.prog, w.heap.size, w, 0, []⟩ [.row 24 5 A1 q1.length c1 (q1.flatMap RA.cells), .row 24 5 A2 q2.length c2 (q2.flatMap RA.cells)] A L ∧ L.length ≤ 20 ∧ (∀ y ∈ L, y.wf) ∧ (A = none → L = [] ∧ c = 0)) A2 c2 q2 := ⟨Rds.row (e := 24) (c := c2) (fun _ => rfl) (by simp), by omega, hw2, fun h => ⟨List.length_eq_zero_iff.1 (hn2 h).1, (hn2 h).2⟩⟩
      obtain ⟨A, c, L, hsel, hRd, hL20, hLwf, hLn⟩ := sel_ex (P := (fun A c L => Rds RA.cells 5 ⟨Tryd.prog, w.heap.size, w, 0, []⟩ [.row 24 5 A1 q1.length c1 (q1.flatMap RA.cells), .row 24 5 A2 q2.length c2 (q2.flatMap RA.cells)] A L ∧ L.length ≤ 20 ∧ (∀ y ∈ L, y.wf) ∧ (A = none → L = [] ∧ c = 0))) hp0 hp1 hp2 hi3
      obtain ⟨p, hpk⟩ := three_ex (l := pass) (m := (z0 : Int)) (n := (z1 : Int)) hi3
      refine cod_skip ?_
      refine ex_then ?_
      refine cod_seq ?_
      refine cod_block ?_
      refine cod_seq ?_
      refine cod_region ?_
      refine lst_move rfl rfl ?_
      refine lst_move rfl rfl ?_
      refine lst_index (j := i) rfl rfl rfl Tryd.underlying29 F.ti22 rfl hi3 ?_
      refine lst_load_at (v := .slice A L.length c) rfl rfl F.one22 (fun a w ha => cell_of_blk (ha.mem_blk (InB.mem (b := bS))) (by rw [Nat.zero_add, Nat.mul_one]; exact hsel)) ?_
      refine lst_fn (X := Option Addr × Nat) (vs := [_]) (p := fun _ => True) (val := fun y => .slice y.1 L.length y.2) (rs := fun y => [.row 24 5 y.1 L.length y.2 (L.flatMap RA.cells)]) rfl rfl F.ent24 (fun a w ha => (DupAgents_c ra_len ra_one A c L (by omega) w hLn (hRd _ _ _ _ _ ha rfl rfl rfl (fun r hr => by simp at hr; rcases hr with h | h <;> subst h <;> simp))).mono (fun e w' h => by obtain ⟨A', c', h1, h2⟩ := h; exact ⟨(A', c'), trivial, h1, h2⟩)) ?_
      rintro ⟨dA, dc⟩ -
      dsimp only [List.cons_append, List.nil_append]
      refine lst_assign rfl rfl ?_
      refine lst_nil ?_
      refine ex_then ?_
      refine cod_seq ?_
      refine cod_region ?_
      refine lst_move rfl rfl ?_
      refine lst_move rfl rfl ?_
      refine lst_move rfl rfl ?_
      refine lst_index (j := i) rfl rfl rfl Tryd.underlying25 F.ti3 rfl hi3 ?_
      refine lst_load_at (v := .int .i64 p) rfl rfl F.one3 (fun a w ha => cell_of_blk (ha.mem_blk (InB.mem (b := b39))) (by rw [Nat.zero_add, Nat.mul_one]; exact hpk)) ?_
      refine lst_fn (X := Option Addr × Nat) (vs := [_, _]) (p := fun _ => True) (val := fun y => .tuple #[.slice y.1 ((hopeR L p).1).length y.2, .int .i64 (((hopeR L p).2 : Nat) : Int)]) (rs := fun y => [.row 3 1 y.1 ((hopeR L p).1).length y.2 (ints ((hopeR L p).1))]) rfl rfl F.ent51 (fun a w ha => (Hopeless_all dA dc L p w (row_reads ha (cells := RA.cells) (size := 5) (e := 24) (c := dc) (n := L.length) (fun _ => rfl) (InR.mem (A := dA)) rfl)).mono (fun e w' h => by obtain ⟨A', c', h1, h2⟩ := h; exact ⟨(A', c'), trivial, h1, h2⟩)) ?_
      rintro ⟨uA1, uc1⟩ -
      dsimp only [List.cons_append, List.nil_append]
      refine lst_move rfl rfl ?_
      refine lst_extract rfl rfl rfl ?_
      refine lst_extract rfl rfl rfl ?_
      refine lst_assign rfl rfl ?_
      refine lst_assign rfl rfl ?_
      refine lst_nil ?_
      refine ex_then ?_
      refine cod_seq ?_
      refine any_begin [] F.follows 14 rfl [false, false, false, false, false, false, false, false, false, false, false, false, false, false] rfl ?_
      refine any_take (listed' := [true, false, false, false, false, false, false, false, false, false, false, false, false, false].toArray) 0 rfl rfl rfl (by kernel_rfl) (by kernel_rfl) (by kernel_rfl) (by repeat (first | exact List.Sublist.refl _ | exact List.nil_sublist _ | refine List.Sublist.cons_cons _ ?_ | refine List.Sublist.cons _ ?_)) (yld_move rfl) rfl ?_
      refine any_take (listed' := [true, true, false, false, false, false, false, false, false, false, false, false, false, false].toArray) 1 rfl rfl rfl (by kernel_rfl) (by kernel_rfl) (by kernel_rfl) (by repeat (first | exact List.Sublist.refl _ | exact List.nil_sublist _ | refine List.Sublist.cons_cons _ ?_ | refine List.Sublist.cons _ ?_)) (yld_move rfl) rfl ?_
      refine any_take (listed' := [true, true, true, false, false, false, false, false, false, false, false, false, false, false].toArray) 2 rfl rfl rfl (by kernel_rfl) (by kernel_rfl) (by kernel_rfl) (by repeat (first | exact List.Sublist.refl _ | exact List.nil_sublist _ | refine List.Sublist.cons_cons _ ?_ | refine List.Sublist.cons _ ?_)) (yld_index (j := i) rfl rfl Tryd.underlying29 F.ti22 rfl hi3) rfl ?_
      refine any_take (listed' := [true, true, true, true, false, false, false, false, false, false, false, false, false, false].toArray) 3 rfl rfl rfl (by kernel_rfl) (by kernel_rfl) (by kernel_rfl) (by repeat (first | exact List.Sublist.refl _ | exact List.nil_sublist _ | refine List.Sublist.cons_cons _ ?_ | refine List.Sublist.cons _ ?_)) (yld_load_at (v := .slice A L.length c) rfl F.one22 (fun a w ha => cell_of_blk (ha.mem_blk (InB.mem (b := bS))) (by rw [Nat.zero_add, Nat.mul_one]; exact hsel))) rfl ?_
      refine any_take (listed' := [true, true, true, true, true, false, false, false, false, false, false, false, false, false].toArray) 4 rfl rfl rfl (by kernel_rfl) (by kernel_rfl) (by kernel_rfl) (by repeat (first | exact List.Sublist.refl _ | exact List.nil_sublist _ | refine List.Sublist.cons_cons _ ?_ | refine List.Sublist.cons _ ?_)) (yld_move rfl) rfl ?_
      refine any_take (listed' := [true, true, true, true, true, true, false, false, false, false, false, false, false, false].toArray) 5 rfl rfl rfl (by kernel_rfl) (by kernel_rfl) (by kernel_rfl) (by repeat (first | exact List.Sublist.refl _ | exact List.nil_sublist _ | refine List.Sublist.cons_cons _ ?_ | refine List.Sublist.cons _ ?_)) (yld_move rfl) rfl ?_
      refine any_take (listed' := [true, true, true, true, true, true, true, false, false, false, false, false, false, false].toArray) 6 rfl rfl rfl (by kernel_rfl) (by kernel_rfl) (by kernel_rfl) (by repeat (first | exact List.Sublist.refl _ | exact List.nil_sublist _ | refine List.Sublist.cons_cons _ ?_ | refine List.Sublist.cons _ ?_)) (yld_index (j := i) rfl rfl Tryd.underlying25 F.ti3 rfl hi3) rfl ?_
      refine any_take (listed' := [true, true, true, true, true, true, true, true, false, false, false, false, false, false].toArray) 7 rfl rfl rfl (by kernel_rfl) (by kernel_rfl) (by kernel_rfl) (by repeat (first | exact List.Sublist.refl _ | exact List.nil_sublist _ | refine List.Sublist.cons_cons _ ?_ | refine List.Sublist.cons _ ?_)) (yld_load_at (v := .int .i64 p) rfl F.one3 (fun a w ha => cell_of_blk (ha.mem_blk (InB.mem (b := b39))) (by rw [Nat.zero_add, Nat.mul_one]; exact hpk))) rfl ?_
      refine any_one (listed' := [true, true, true, true, true, true, true, true, true, false, false, false, false, false].toArray) 8 (by kernel_rfl) rfl rfl ?_
      refine lst_fn (X := Option Addr × Nat) (vs := [_, _]) (p := fun _ => True) (val := fun y => .tuple #[.slice y.1 ((hopeR L p).1).length y.2, .int .i64 (((hopeR L p).2 : Nat) : Int)]) (rs := fun y => [.row 3 1 y.1 ((hopeR L p).1).length y.2 (ints ((hopeR L p).1))]) rfl rfl F.ent65 (fun a w ha => (rHopeless_all A c L p w (hRd _ _ _ _ _ ha rfl rfl rfl (fun r hr => by simp at hr; rcases hr with h | h <;> subst h <;> simp))).mono (fun e w' h => by obtain ⟨A', c', h1, h2⟩ := h; exact ⟨(A', c'), trivial, h1, h2⟩)) ?_
      rintro ⟨uA2, uc2⟩ -
      dsimp only [List.cons_append, List.nil_append]
      refine lst_nil ?_
      refine any_next (by repeat (first | exact List.Sublist.refl _ | exact List.nil_sublist _ | refine List.Sublist.cons_cons _ ?_ | refine List.Sublist.cons _ ?_)) ?_
      refine any_take (listed' := [true, true, true, true, true, true, true, true, true, true, false, false, false, false].toArray) 9 rfl rfl rfl (by kernel_rfl) (by kernel_rfl) (by kernel_rfl) (by repeat (first | exact List.Sublist.refl _ | exact List.nil_sublist _ | refine List.Sublist.cons_cons _ ?_ | refine List.Sublist.cons _ ?_)) (yld_move rfl) rfl ?_
      refine any_take (listed' := [true, true, true, true, true, true, true, true, true, true, true, false, false, false].toArray) 10 rfl rfl rfl (by kernel_rfl) (by kernel_rfl) (by kernel_rfl) (by repeat (first | exact List.Sublist.refl _ | exact List.nil_sublist _ | refine List.Sublist.cons_cons _ ?_ | refine List.Sublist.cons _ ?_)) (yld_extract rfl rfl) rfl ?_
      refine any_take (listed' := [true, true, true, true, true, true, true, true, true, true, true, true, false, false].toArray) 11 rfl rfl rfl (by kernel_rfl) (by kernel_rfl) (by kernel_rfl) (by repeat (first | exact List.Sublist.refl _ | exact List.nil_sublist _ | refine List.Sublist.cons_cons _ ?_ | refine List.Sublist.cons _ ?_)) (yld_extract rfl rfl) rfl ?_
      refine any_take (listed' := [true, true, true, true, true, true, true, true, true, true, true, true, true, false].toArray) 12 rfl rfl rfl (by kernel_rfl) (by kernel_rfl) (by kernel_rfl) (by repeat (first | exact List.Sublist.refl _ | exact List.nil_sublist _ | refine List.Sublist.cons_cons _ ?_ | refine List.Sublist.cons _ ?_)) (yld_assign rfl) rfl ?_
      refine any_take (listed' := [true, true, true, true, true, true, true, true, true, true, true, true, true, true].toArray) 13 rfl rfl rfl (by kernel_rfl) (by kernel_rfl) (by kernel_rfl) (by repeat (first | exact List.Sublist.refl _ | exact List.nil_sublist _ | refine List.Sublist.cons_cons _ ?_ | refine List.Sublist.cons _ ?_)) (yld_assign rfl) rfl ?_
      refine any_done rfl (by kernel_rfl) ?_
      refine ex_then ?_
      refine cod_seq ?_
      refine cod_region ?_
      refine lst_move rfl rfl ?_
      refine lst_move rfl rfl ?_
      refine lst_move rfl rfl ?_
      refine lst_index (j := i) rfl rfl rfl Tryd.underlying25 F.ti3 rfl hi3 ?_
      refine lst_load_at (v := .int .i64 p) rfl rfl F.one3 (fun a w ha => cell_of_blk (ha.mem_blk (InB.mem (b := b39))) (by rw [Nat.zero_add, Nat.mul_one]; exact hpk)) ?_
      refine lst_fn (X := Nat × Nat × Nat) (vs := [_, _]) (p := fun y => FarS L p y.1 y.2.1 y.2.2) (val := fun y => .tuple #[.int .i64 (y.1 : Int), .int .i64 (y.2.1 : Int), .int .i64 (y.2.2 : Int)]) (rs := fun _ => []) rfl rfl F.ent54 (fun a w ha => (Farthest_all dA dc L p w (row_reads ha (cells := RA.cells) (size := 5) (e := 24) (c := dc) (n := L.length) (fun _ => rfl) (InR.mem (A := dA)) rfl)).mono (fun e w' h => by obtain ⟨n, m, E, h1, h2, h3⟩ := h; exact ⟨(n, m, E), h1, h2, h3⟩)) ?_
      rintro ⟨n1, m1, e1⟩ hf1
      dsimp only [List.nil_append] at hf1 ⊢
      refine lst_move rfl rfl ?_
      refine lst_extract rfl rfl rfl ?_
      refine lst_extract rfl rfl rfl ?_
      refine lst_extract rfl rfl rfl ?_
      refine lst_assign rfl rfl ?_
      refine lst_assign rfl rfl ?_
      refine lst_assign rfl rfl ?_
      refine lst_nil ?_
      refine ex_then ?_
      refine cod_seq ?_
      refine any_begin [] F.follows 16 rfl [false, false, false, false, false, false, false, false, false, false, false, false, false, false, false, false] rfl ?_
      refine any_take (listed' := [true, false, false, false, false, false, false, false, false, false, false, false, false, false, false, false].toArray) 0 rfl rfl rfl (by kernel_rfl) (by kernel_rfl) (by kernel_rfl) (by repeat (first | exact List.Sublist.refl _ | exact List.nil_sublist _ | refine List.Sublist.cons_cons _ ?_ | refine List.Sublist.cons _ ?_)) (yld_move rfl) rfl ?_
      refine any_take (listed' := [true, true, false, false, false, false, false, false, false, false, false, false, false, false, false, false].toArray) 1 rfl rfl rfl (by kernel_rfl) (by kernel_rfl) (by kernel_rfl) (by repeat (first | exact List.Sublist.refl _ | exact List.nil_sublist _ | refine List.Sublist.cons_cons _ ?_ | refine List.Sublist.cons _ ?_)) (yld_move rfl) rfl ?_
      refine any_take (listed' := [true, true, true, false, false, false, false, false, false, false, false, false, false, false, false, false].toArray) 2 rfl rfl rfl (by kernel_rfl) (by kernel_rfl) (by kernel_rfl) (by repeat (first | exact List.Sublist.refl _ | exact List.nil_sublist _ | refine List.Sublist.cons_cons _ ?_ | refine List.Sublist.cons _ ?_)) (yld_index (j := i) rfl rfl Tryd.underlying29 F.ti22 rfl hi3) rfl ?_
      refine any_take (listed' := [true, true, true, true, false, false, false, false, false, false, false, false, false, false, false, false].toArray) 3 rfl rfl rfl (by kernel_rfl) (by kernel_rfl) (by kernel_rfl) (by repeat (first | exact List.Sublist.refl _ | exact List.nil_sublist _ | refine List.Sublist.cons_cons _ ?_ | refine List.Sublist.cons _ ?_)) (yld_load_at (v := .slice A L.length c) rfl F.one22 (fun a w ha => cell_of_blk (ha.mem_blk (InB.mem (b := bS))) (by rw [Nat.zero_add, Nat.mul_one]; exact hsel))) rfl ?_
      refine any_take (listed' := [true, true, true, true, true, false, false, false, false, false, false, false, false, false, false, false].toArray) 4 rfl rfl rfl (by kernel_rfl) (by kernel_rfl) (by kernel_rfl) (by repeat (first | exact List.Sublist.refl _ | exact List.nil_sublist _ | refine List.Sublist.cons_cons _ ?_ | refine List.Sublist.cons _ ?_)) (yld_move rfl) rfl ?_
      refine any_take (listed' := [true, true, true, true, true, true, false, false, false, false, false, false, false, false, false, false].toArray) 5 rfl rfl rfl (by kernel_rfl) (by kernel_rfl) (by kernel_rfl) (by repeat (first | exact List.Sublist.refl _ | exact List.nil_sublist _ | refine List.Sublist.cons_cons _ ?_ | refine List.Sublist.cons _ ?_)) (yld_move rfl) rfl ?_
      refine any_take (listed' := [true, true, true, true, true, true, true, false, false, false, false, false, false, false, false, false].toArray) 6 rfl rfl rfl (by kernel_rfl) (by kernel_rfl) (by kernel_rfl) (by repeat (first | exact List.Sublist.refl _ | exact List.nil_sublist _ | refine List.Sublist.cons_cons _ ?_ | refine List.Sublist.cons _ ?_)) (yld_index (j := i) rfl rfl Tryd.underlying25 F.ti3 rfl hi3) rfl ?_
      refine any_take (listed' := [true, true, true, true, true, true, true, true, false, false, false, false, false, false, false, false].toArray) 7 rfl rfl rfl (by kernel_rfl) (by kernel_rfl) (by kernel_rfl) (by repeat (first | exact List.Sublist.refl _ | exact List.nil_sublist _ | refine List.Sublist.cons_cons _ ?_ | refine List.Sublist.cons _ ?_)) (yld_load_at (v := .int .i64 p) rfl F.one3 (fun a w ha => cell_of_blk (ha.mem_blk (InB.mem (b := b39))) (by rw [Nat.zero_add, Nat.mul_one]; exact hpk))) rfl ?_
      refine any_one (listed' := [true, true, true, true, true, true, true, true, true, false, false, false, false, false, false, false].toArray) 8 (by kernel_rfl) rfl rfl ?_
      refine lst_fn (X := Nat × Nat × Nat) (vs := [_, _]) (p := fun y => FarS L p y.1 y.2.1 y.2.2) (val := fun y => .tuple #[.int .i64 (y.1 : Int), .int .i64 (y.2.1 : Int), .int .i64 (y.2.2 : Int)]) (rs := fun _ => []) rfl rfl F.ent66 (fun a w ha => (rFarthest_all A c L p w (hRd _ _ _ _ _ ha rfl rfl rfl (fun r hr => by simp at hr; rcases hr with h | h <;> subst h <;> simp))).mono (fun e w' h => by obtain ⟨n, m, E, h1, h2, h3⟩ := h; exact ⟨(n, m, E), h1, h2, h3⟩)) ?_
      rintro ⟨n2, m2, e2⟩ hf2
      dsimp only [List.nil_append] at hf2 ⊢
      obtain ⟨rfl, rfl, rfl⟩ := hf1.unique hf2
      refine lst_nil ?_
      refine any_next (by repeat (first | exact List.Sublist.refl _ | exact List.nil_sublist _ | refine List.Sublist.cons_cons _ ?_ | refine List.Sublist.cons _ ?_)) ?_
      refine any_take (listed' := [true, true, true, true, true, true, true, true, true, true, false, false, false, false, false, false].toArray) 9 rfl rfl rfl (by kernel_rfl) (by kernel_rfl) (by kernel_rfl) (by repeat (first | exact List.Sublist.refl _ | exact List.nil_sublist _ | refine List.Sublist.cons_cons _ ?_ | refine List.Sublist.cons _ ?_)) (yld_move rfl) rfl ?_
      refine any_take (listed' := [true, true, true, true, true, true, true, true, true, true, true, false, false, false, false, false].toArray) 10 rfl rfl rfl (by kernel_rfl) (by kernel_rfl) (by kernel_rfl) (by repeat (first | exact List.Sublist.refl _ | exact List.nil_sublist _ | refine List.Sublist.cons_cons _ ?_ | refine List.Sublist.cons _ ?_)) (yld_extract rfl rfl) rfl ?_
      refine any_take (listed' := [true, true, true, true, true, true, true, true, true, true, true, true, false, false, false, false].toArray) 11 rfl rfl rfl (by kernel_rfl) (by kernel_rfl) (by kernel_rfl) (by repeat (first | exact List.Sublist.refl _ | exact List.nil_sublist _ | refine List.Sublist.cons_cons _ ?_ | refine List.Sublist.cons _ ?_)) (yld_extract rfl rfl) rfl ?_
      refine any_take (listed' := [true, true, true, true, true, true, true, true, true, true, true, true, true, false, false, false].toArray) 12 rfl rfl rfl (by kernel_rfl) (by kernel_rfl) (by kernel_rfl) (by repeat (first | exact List.Sublist.refl _ | exact List.nil_sublist _ | refine List.Sublist.cons_cons _ ?_ | refine List.Sublist.cons _ ?_)) (yld_extract rfl rfl) rfl ?_
      refine any_take (listed' := [true, true, true, true, true, true, true, true, true, true, true, true, true, true, false, false].toArray) 13 rfl rfl rfl (by kernel_rfl) (by kernel_rfl) (by kernel_rfl) (by repeat (first | exact List.Sublist.refl _ | exact List.nil_sublist _ | refine List.Sublist.cons_cons _ ?_ | refine List.Sublist.cons _ ?_)) (yld_assign rfl) rfl ?_
      refine any_take (listed' := [true, true, true, true, true, true, true, true, true, true, true, true, true, true, true, false].toArray) 14 rfl rfl rfl (by kernel_rfl) (by kernel_rfl) (by kernel_rfl) (by repeat (first | exact List.Sublist.refl _ | exact List.nil_sublist _ | refine List.Sublist.cons_cons _ ?_ | refine List.Sublist.cons _ ?_)) (yld_assign rfl) rfl ?_
      refine any_take (listed' := [true, true, true, true, true, true, true, true, true, true, true, true, true, true, true, true].toArray) 15 rfl rfl rfl (by kernel_rfl) (by kernel_rfl) (by kernel_rfl) (by repeat (first | exact List.Sublist.refl _ | exact List.nil_sublist _ | refine List.Sublist.cons_cons _ ?_ | refine List.Sublist.cons _ ?_)) (yld_assign rfl) rfl ?_
      refine any_done rfl (by kernel_rfl) ?_
      refine ex_then ?_
      refine cod_seq ?_
      refine cod_seq ?_
      refine cod_region ?_
      refine lst_move rfl rfl ?_
      refine lst_move rfl rfl ?_
      refine lst_int (v := .bool false) rfl rfl rfl (fun w => by rw [bin_neq]; simp) ?_
      refine lst_move rfl rfl ?_
      refine lst_on rfl rfl ?_
      refine lst_move rfl rfl ?_
      refine lst_on rfl rfl ?_
      refine lst_move rfl rfl ?_
      refine lst_on rfl rfl ?_
      refine lst_int (v := .bool false) rfl rfl rfl (fun w => by rw [bin_neq]; simp) ?_
      refine lst_pick_false rfl rfl rfl ?_
      refine lst_move rfl rfl ?_
      refine lst_on rfl rfl ?_
      refine lst_move rfl rfl ?_
      refine lst_on rfl rfl ?_
      refine lst_move rfl rfl ?_
      refine lst_on rfl rfl ?_
      refine lst_int (v := .bool false) rfl rfl rfl (fun w => by rw [bin_neq]; simp) ?_
      refine lst_pick_false rfl rfl rfl ?_
      refine lst_move rfl rfl ?_
      refine lst_on rfl rfl ?_
      refine lst_move rfl rfl ?_
      refine lst_on rfl rfl ?_
      refine lst_move rfl rfl ?_
      refine lst_on rfl rfl ?_
      refine lst_int (v := .bool false) rfl rfl rfl (fun w => by rw [bin_neq]; simp) ?_
      refine lst_pick_false rfl rfl rfl ?_
      refine lst_move rfl rfl ?_
      refine lst_on rfl rfl ?_
      refine lst_move rfl rfl ?_
      refine lst_on rfl rfl ?_
      refine lst_move rfl rfl ?_
      refine lst_on rfl rfl ?_
      refine lst_fn0 (v := .bool true) (vs := [_, _]) rfl rfl F.ent32 (fun a w ha => by
        have h := eqInts_c uA1 uA2 uc1 uc2 (castL ((hopeR L p).1)) (castL ((hopeR L p).1)) (by rw [castL_len]; exact (Nat.le_trans (hopeR_le L p) (by omega))) w (RdL.cast (row_reads ha (cells := ncell) (size := 1) (e := 3) (c := uc1) (n := ((hopeR L p).1).length) (fun _ => rfl) (by rw [← ints_flat]; exact InR.mem (A := uA1)) rfl)) (RdL.cast (row_reads ha (cells := ncell) (size := 1) (e := 3) (c := uc2) (n := ((hopeR L p).1).length) (fun _ => rfl) (by rw [← ints_flat]; exact InR.mem (A := uA2)) rfl))
        rw [castL_len] at h
        exact h.mono (fun e w' h => ⟨h.1.trans (by simp), h.2⟩)) ?_
      refine lst_on rfl rfl ?_
      refine lst_not rfl rfl ?_
      refine lst_pick_false rfl rfl rfl ?_
      refine lst_nil ?_
      refine ex_then ?_
      refine cod_cond_false rfl ?_
      refine cod_skip ?_
      refine ex_then ?_
      refine cod_seq ?_
      refine cod_region ?_
      refine lst_move rfl rfl ?_
      refine lst_move rfl rfl ?_
      refine lst_move rfl rfl ?_
      refine lst_index (j := i) rfl rfl rfl Tryd.underlying25 F.ti3 rfl hi3 ?_
      refine lst_load_at (v := .int .i64 p) rfl rfl F.one3 (fun a w ha => cell_of_blk (ha.mem_blk (InB.mem (b := b39))) (by rw [Nat.zero_add, Nat.mul_one]; exact hpk)) ?_
      refine lst_fn (X := List Nat × Nat × Option Addr × Nat) (vs := [_, _]) (p := fun y => FewSay L p y.1 y.2.1) (val := fun y => .tuple #[.slice y.2.2.1 y.1.length y.2.2.2, .int .i64 (y.2.1 : Int)]) (rs := fun y => [.row 3 1 y.2.2.1 y.1.length y.2.2.2 (ints y.1)]) rfl rfl F.ent67 (fun a w ha => (Fewest_all dA dc L p w (row_reads ha (cells := RA.cells) (size := 5) (e := 24) (c := dc) (n := L.length) (fun _ => rfl) (InR.mem (A := dA)) rfl)).mono (fun e w' h => by obtain ⟨W, E, A', c', h1, h2, h3⟩ := h; exact ⟨(W, E, A', c'), h1, h2, h3⟩)) ?_
      rintro ⟨W1, E1, vA1, vc1⟩ hw1f
      dsimp only [List.cons_append, List.nil_append] at hw1f ⊢
      refine lst_move rfl rfl ?_
      refine lst_extract rfl rfl rfl ?_
      refine lst_extract rfl rfl rfl ?_
      refine lst_assign rfl rfl ?_
      refine lst_assign rfl rfl ?_
      refine lst_nil ?_
      refine ex_then ?_
      refine cod_seq ?_
      refine any_begin [] F.follows 14 rfl [false, false, false, false, false, false, false, false, false, false, false, false, false, false] rfl ?_
      refine any_take (listed' := [true, false, false, false, false, false, false, false, false, false, false, false, false, false].toArray) 0 rfl rfl rfl (by kernel_rfl) (by kernel_rfl) (by kernel_rfl) (by repeat (first | exact List.Sublist.refl _ | exact List.nil_sublist _ | refine List.Sublist.cons_cons _ ?_ | refine List.Sublist.cons _ ?_)) (yld_move rfl) rfl ?_
      refine any_take (listed' := [true, true, false, false, false, false, false, false, false, false, false, false, false, false].toArray) 1 rfl rfl rfl (by kernel_rfl) (by kernel_rfl) (by kernel_rfl) (by repeat (first | exact List.Sublist.refl _ | exact List.nil_sublist _ | refine List.Sublist.cons_cons _ ?_ | refine List.Sublist.cons _ ?_)) (yld_move rfl) rfl ?_
      refine any_take (listed' := [true, true, true, false, false, false, false, false, false, false, false, false, false, false].toArray) 2 rfl rfl rfl (by kernel_rfl) (by kernel_rfl) (by kernel_rfl) (by repeat (first | exact List.Sublist.refl _ | exact List.nil_sublist _ | refine List.Sublist.cons_cons _ ?_ | refine List.Sublist.cons _ ?_)) (yld_index (j := i) rfl rfl Tryd.underlying29 F.ti22 rfl hi3) rfl ?_
      refine any_take (listed' := [true, true, true, true, false, false, false, false, false, false, false, false, false, false].toArray) 3 rfl rfl rfl (by kernel_rfl) (by kernel_rfl) (by kernel_rfl) (by repeat (first | exact List.Sublist.refl _ | exact List.nil_sublist _ | refine List.Sublist.cons_cons _ ?_ | refine List.Sublist.cons _ ?_)) (yld_load_at (v := .slice A L.length c) rfl F.one22 (fun a w ha => cell_of_blk (ha.mem_blk (InB.mem (b := bS))) (by rw [Nat.zero_add, Nat.mul_one]; exact hsel))) rfl ?_
      refine any_take (listed' := [true, true, true, true, true, false, false, false, false, false, false, false, false, false].toArray) 4 rfl rfl rfl (by kernel_rfl) (by kernel_rfl) (by kernel_rfl) (by repeat (first | exact List.Sublist.refl _ | exact List.nil_sublist _ | refine List.Sublist.cons_cons _ ?_ | refine List.Sublist.cons _ ?_)) (yld_move rfl) rfl ?_
      refine any_take (listed' := [true, true, true, true, true, true, false, false, false, false, false, false, false, false].toArray) 5 rfl rfl rfl (by kernel_rfl) (by kernel_rfl) (by kernel_rfl) (by repeat (first | exact List.Sublist.refl _ | exact List.nil_sublist _ | refine List.Sublist.cons_cons _ ?_ | refine List.Sublist.cons _ ?_)) (yld_move rfl) rfl ?_
      refine any_take (listed' := [true, true, true, true, true, true, true, false, false, false, false, false, false, false].toArray) 6 rfl rfl rfl (by kernel_rfl) (by kernel_rfl) (by kernel_rfl) (by repeat (first | exact List.Sublist.refl _ | exact List.nil_sublist _ | refine List.Sublist.cons_cons _ ?_ | refine List.Sublist.cons _ ?_)) (yld_index (j := i) rfl rfl Tryd.underlying25 F.ti3 rfl hi3) rfl ?_
      refine any_take (listed' := [true, true, true, true, true, true, true, true, false, false, false, false, false, false].toArray) 7 rfl rfl rfl (by kernel_rfl) (by kernel_rfl) (by kernel_rfl) (by repeat (first | exact List.Sublist.refl _ | exact List.nil_sublist _ | refine List.Sublist.cons_cons _ ?_ | refine List.Sublist.cons _ ?_)) (yld_load_at (v := .int .i64 p) rfl F.one3 (fun a w ha => cell_of_blk (ha.mem_blk (InB.mem (b := b39))) (by rw [Nat.zero_add, Nat.mul_one]; exact hpk))) rfl ?_
      refine any_one (listed' := [true, true, true, true, true, true, true, true, true, false, false, false, false, false].toArray) 8 (by kernel_rfl) rfl rfl ?_
      refine lst_fn (X := List Nat × Nat × Option Addr × Nat) (vs := [_, _]) (p := fun y => FewSay L p y.1 y.2.1) (val := fun y => .tuple #[.slice y.2.2.1 y.1.length y.2.2.2, .int .i64 (y.2.1 : Int)]) (rs := fun y => [.row 3 1 y.2.2.1 y.1.length y.2.2.2 (ints y.1)]) rfl rfl F.ent68 (fun a w ha => (rFewest_all A c L p w (hRd _ _ _ _ _ ha rfl rfl rfl (fun r hr => by simp at hr; rcases hr with h | h <;> subst h <;> simp))).mono (fun e w' h => by obtain ⟨W, E, A', c', h1, h2, h3⟩ := h; exact ⟨(W, E, A', c'), h1, h2, h3⟩)) ?_
      rintro ⟨W2, E2, vA2, vc2⟩ hw2f
      dsimp only [List.cons_append, List.nil_append] at hw2f ⊢
      obtain ⟨rfl, rfl⟩ := hw1f.unique hw2f
      refine lst_nil ?_
      refine any_next (by repeat (first | exact List.Sublist.refl _ | exact List.nil_sublist _ | refine List.Sublist.cons_cons _ ?_ | refine List.Sublist.cons _ ?_)) ?_
      refine any_take (listed' := [true, true, true, true, true, true, true, true, true, true, false, false, false, false].toArray) 9 rfl rfl rfl (by kernel_rfl) (by kernel_rfl) (by kernel_rfl) (by repeat (first | exact List.Sublist.refl _ | exact List.nil_sublist _ | refine List.Sublist.cons_cons _ ?_ | refine List.Sublist.cons _ ?_)) (yld_move rfl) rfl ?_
      refine any_take (listed' := [true, true, true, true, true, true, true, true, true, true, true, false, false, false].toArray) 10 rfl rfl rfl (by kernel_rfl) (by kernel_rfl) (by kernel_rfl) (by repeat (first | exact List.Sublist.refl _ | exact List.nil_sublist _ | refine List.Sublist.cons_cons _ ?_ | refine List.Sublist.cons _ ?_)) (yld_extract rfl rfl) rfl ?_
      refine any_take (listed' := [true, true, true, true, true, true, true, true, true, true, true, true, false, false].toArray) 11 rfl rfl rfl (by kernel_rfl) (by kernel_rfl) (by kernel_rfl) (by repeat (first | exact List.Sublist.refl _ | exact List.nil_sublist _ | refine List.Sublist.cons_cons _ ?_ | refine List.Sublist.cons _ ?_)) (yld_extract rfl rfl) rfl ?_
      refine any_take (listed' := [true, true, true, true, true, true, true, true, true, true, true, true, true, false].toArray) 12 rfl rfl rfl (by kernel_rfl) (by kernel_rfl) (by kernel_rfl) (by repeat (first | exact List.Sublist.refl _ | exact List.nil_sublist _ | refine List.Sublist.cons_cons _ ?_ | refine List.Sublist.cons _ ?_)) (yld_assign rfl) rfl ?_
      refine any_take (listed' := [true, true, true, true, true, true, true, true, true, true, true, true, true, true].toArray) 13 rfl rfl rfl (by kernel_rfl) (by kernel_rfl) (by kernel_rfl) (by repeat (first | exact List.Sublist.refl _ | exact List.nil_sublist _ | refine List.Sublist.cons_cons _ ?_ | refine List.Sublist.cons _ ?_)) (yld_assign rfl) rfl ?_
      refine any_done rfl (by kernel_rfl) ?_
      refine ex_then ?_
      refine cod_seq ?_
      refine cod_region ?_
      refine lst_move rfl rfl ?_
      refine lst_move rfl rfl ?_
      refine lst_int (v := .bool false) rfl rfl rfl (fun w => by rw [bin_neq]; simp) ?_
      refine lst_move rfl rfl ?_
      refine lst_on rfl rfl ?_
      refine lst_move rfl rfl ?_
      refine lst_on rfl rfl ?_
      refine lst_move rfl rfl ?_
      refine lst_on rfl rfl ?_
      refine lst_fn0 (v := .bool true) (vs := [_, _]) rfl rfl F.ent32 (fun a w ha => by
        have h := eqInts_c vA1 vA2 vc1 vc2 (castL (W1)) (castL (W1)) (by rw [castL_len]; exact (Nat.le_trans hw1f.le (by omega))) w (RdL.cast (row_reads ha (cells := ncell) (size := 1) (e := 3) (c := vc1) (n := (W1).length) (fun _ => rfl) (by rw [← ints_flat]; exact InR.mem (A := vA1)) rfl)) (RdL.cast (row_reads ha (cells := ncell) (size := 1) (e := 3) (c := vc2) (n := (W1).length) (fun _ => rfl) (by rw [← ints_flat]; exact InR.mem (A := vA2)) rfl))
        rw [castL_len] at h
        exact h.mono (fun e w' h => ⟨h.1.trans (by simp), h.2⟩)) ?_
      refine lst_on rfl rfl ?_
      refine lst_not rfl rfl ?_
      refine lst_pick_false rfl rfl rfl ?_
      refine lst_move rfl rfl ?_
      refine lst_on rfl rfl ?_
      refine lst_move rfl rfl ?_
      refine lst_on rfl rfl ?_
      refine lst_move rfl rfl ?_
      refine lst_on rfl rfl ?_
      refine lst_move rfl rfl ?_
      refine lst_on rfl rfl ?_
      refine lst_index (j := i) rfl rfl rfl Tryd.underlying29 F.ti22 rfl hi3 ?_
      refine lst_on rfl rfl ?_
      refine lst_load_at (v := .slice A L.length c) rfl rfl F.one22 (fun a w ha => cell_of_blk (ha.mem_blk (InB.mem (b := bS))) (by rw [Nat.zero_add, Nat.mul_one]; exact hsel)) ?_
      refine lst_on rfl rfl ?_
      refine lst_fn0 (v := .bool true) (vs := [_, _]) rfl rfl F.ent33 (fun a w ha => EqAgents_c dA A dc c L (by omega) hLwf w (row_reads ha (cells := RA.cells) (size := 5) (e := 24) (c := dc) (n := L.length) (fun _ => rfl) (InR.mem (A := dA)) rfl) (hRd _ _ _ _ _ ha rfl rfl rfl (fun r hr => by simp at hr; rcases hr with h | h <;> subst h <;> simp))) ?_
      refine lst_on rfl rfl ?_
      refine lst_not rfl rfl ?_
      refine lst_pick_false rfl rfl rfl ?_
      refine lst_nil ?_
      refine ex_then ?_
      refine cod_cond_false rfl ?_
      refine cod_skip ?_
      refine ex_block_normal ?_
      refine ex_then ?_
      refine cod_region ?_
      refine lst_move rfl rfl ?_
      refine lst_int rfl rfl rfl (fun w => bin_add w (wrap_i64' _ (by omega) (by omega))) ?_
      refine lst_assign rfl rfl ?_
      refine lst_nil ?_
      refine ex_round' (i + 1) (by (try dsimp only); omega) (by (try dsimp only); omega) (by repeat (first | exact Sub.nil _ | refine Sub.cons rfl ?_)) (by repeat (first | exact Pck.nil _ | exact Pck.refl _ | (apply Pck.cons; focus ((repeat (first | exact Rem.here _ | apply Rem.there)); done)) | refine Pck.skip _ ?_))
    · skip
      refine cod_exit ?_
      refine ex_then_exit ?_
      refine ex_then_exit ?_
      refine ex_block_exit ?_
      refine ex_then ?_
      refine cod_seq ?_
      refine cod_region ?_
      refine lst_fn0 (vs := []) rfl rfl F.ent21 (fun a w ha => fined_c w) ?_
      refine lst_assign rfl rfl ?_
      refine lst_nil ?_
      refine ex_then ?_
      refine cod_ret ?_
      exact ex_ret rfl (fun a w ha => res_one rfl rfl ha) (fun a w ha => ⟨rfl, ha.grown (List.nil_sublist _)⟩)

end Go.Proofs.YtofkhehcnfiopaaDoor.N
namespace Go.Proofs.YtofkhehcnfiopaaDoor.N
open Go
theorem returnsInLeavingWide_of_calls {a : Assume} {C : Checked} {os : Os} {f : FuncId} {r : Reach} {Pre : World → Array Value → Prop} {Post : World → Array Value → Value → World → Prop}
    (own : ownKnob C.prog.godebug = none) (started : os.Started) (noInit : C.prog.inits.idxOf? f = none)
    (witness : ∃ (w : World) (tape : Tape) (i : Input), w.os = os ∧ (w.forCall tape i).Shaped C.prog ∧ i.vars = [] ∧ Input.okWide C.prog (w.forCall tape i) r w.heap.size f i ∧ Pre (w.forCall tape i).memory i.args ∧
      a.holds C.prog (lone (Frame.enter C.prog f i.args .normal) [] (w.forCall tape i)))
    (contract : ∀ (w : World) (tape : Tape) (i : Input), w.os = os → (w.forCall tape i).ShapedOpen C.prog → i.vars = [] → Input.okWide C.prog (w.forCall tape i) r w.heap.size f i → Pre (w.forCall tape i).memory i.args →
      a.holds C.prog (lone (Frame.enter C.prog f i.args .normal) [] (w.forCall tape i)) →
      Calls C.prog f i.args (w.forCall tape i) fun
        | .returned v, w' => Post (w.forCall tape i).blind i.args v w'.blind
        | _, _ => False) :
    ReturnsInLeavingWide a C os f r Pre Post := fun enter => by
  obtain ⟨w0, t0, i0, a1, a2, a3, a4, a5, a6⟩ := witness
  refine ⟨enter, own, started, ⟨w0, t0, i0, a1, a2, a3, a4, a5, a6, trivial⟩, fun w tape i h => ?_⟩
  obtain ⟨n, v, w', fr, hn, hend, hp⟩ := (contract w tape i h.1 h.2.1 h.2.2.1 h.2.2.2.1 h.2.2.2.2.1 h.2.2.2.2.2.1).done_lone noInit
  have hal := alone_of_lone (w' := w') hn
  refine ⟨n + 1, v, w', hend, (clean_of_lone hn).2, roomy_placeholder .., hp, ⟨n, _, hn, step_of_runs hn hend, ⟨hal.2.1, onlyLeaving_of_quiet hal.1, hal.2.2⟩⟩, fun _ _ _ => trivial⟩
theorem returnsInLeavingWide_of_change_and {H : Type} {enc : TypeId × Value → H} {a : Assume} {C : Checked} {os : Os} {f : FuncId} {fn : Func} {s : ChangeSpec} {conds : List PathCond} {apart fresh handsOn again : Bool} {X : World → Array Value → Prop}
    (hX : ∀ (w w' : World) (args : Array Value), w.heap = w'.heap → X w args → X w' args)
    (own : ownKnob C.prog.godebug = none) (started : os.Started) (noInit : C.prog.inits.idxOf? f = none) (hfn : C.prog.funcs[f]? = some fn)
    (witness : ∃ (w : World) (tape : Tape) (i : Input), w.os = os ∧ (w.forCall tape i).Shaped C.prog ∧ i.vars = [] ∧ Input.okWide C.prog (w.forCall tape i) .any w.heap.size f i ∧
      ((s.pre enc C.prog fn conds apart (w.forCall tape i).memory i.args ∧ X (w.forCall tape i).memory i.args) ∧ sizedMet enc C.prog fn (OpenSpec.ofChange s) apart (w.forCall tape i).memory i.args) ∧ a.holds C.prog (lone (Frame.enter C.prog f i.args .normal) [] (w.forCall tape i)))
    (contract : ∀ (W : World) (base : Nat) (args : Array Value) (ds gs : List (DataW H)) (before : List MemPlace),
      (∀ (j : Nat) t v, fn.params[j]? = some t → args[j]? = some v → Value.okWide C.prog W .any base t v) →
      DataW.Whole enc C.prog fn.params.toList s.vars apart W args.toList ds gs before →
      conds.all (PathCond.test C.prog ⟨fn.params.toList, ds, s.plain.varTypes C.prog, gs⟩) = true →
      (DataW.weightsEach C.prog (fn.params.toList ++ s.plain.varTypes C.prog) (ds ++ gs)).all (· ≤ reachBytes) = true → X W args →
      a.holds C.prog (lone (Frame.enter C.prog f args .normal) [] W) →
      Calls C.prog f args W fun e W' => ∃ v, e = .returned v ∧ s.post enc C.prog fn apart fresh handsOn again W args v W') :
    ReturnsInLeavingWide a C os f .any (fun w args => (s.pre enc C.prog fn conds apart w args ∧ X w args) ∧ sizedMet enc C.prog fn (OpenSpec.ofChange s) apart w args) (s.post enc C.prog fn apart fresh handsOn again) := by
  refine returnsInLeavingWide_of_calls own started noInit witness ?_
  intro w tape i _ _ _ hok hpre hholds
  obtain ⟨_, _, _, fn', hfn', _, _, _, _, hval⟩ := hok
  have e : fn' = fn := Option.some.inj (hfn'.symm.trans hfn)
  subst e
  obtain ⟨⟨⟨ds, gs, before, hw, hc⟩, hx⟩, hz⟩ := hpre
  have hw' := DataW.Whole.of_heap (w' := w.forCall tape i) (by rfl) hw
  refine (contract (w.forCall tape i) w.heap.size i.args ds gs before hval hw' hc (hz.weights hw) (hX _ _ _ (by rfl) hx) hholds).mono fun e W' ⟨v, he, hp⟩ => ?_
  subst he
  exact ChangeSpec.post_blind hp
end Go.Proofs.YtofkhehcnfiopaaDoor.N
/- What rows of laws about numbers share: the laid world, and the law from its lone call. -/
namespace Go.Proofs.YtofkhehcnfiopaaDoor.N
open Go Go.ChangeShapes Go.WideShapes Go.ChangeAt Go.RowKit Go.Proofs Go.Proofs.YtofkhehcnfiopaaDoor Go.Proofs.YtofkhehcnfiopaaDoor.Rows
theorem own_ : ownKnob Tryd.prog.godebug = Option.none := by kernel_rfl
theorem laidOut_ : laidOutB Tryd.prog = true := by kernel_rfl
theorem cells3_ : Tryd.prog.cellsOf 3 = 1 := by kernel_rfl
theorem und25_ : Tryd.prog.underlying 25 = some (.slice 3) := by kernel_rfl
theorem und3_ : Tryd.prog.underlying 3 = some (.int .i64) := by kernel_rfl
theorem und4_ : Tryd.prog.underlying 4 = some .bool := by kernel_rfl
theorem read25_ : Tryd.prog.readableRec 25 = true := by kernel_rfl
set_option maxRecDepth 100000 in
theorem size_ : 25 < Tryd.prog.types.size := of_decide_eq_true (by kernel_rfl)
def laidL : List (String × DataW Unit) := [("errors.errorType", laid_errors_errorType)]
/-- The settled world, with the one listed variable laid. -/
noncomputable def laidWorld (os : Os) : World :=
  let w0 := World.holding Tryd.prog os ⟨#[], #[], []⟩
  { w0 with heap := w0.heap.modify 0 fun
      | .cells _ t frozen => .cells #[.iface 166 (.agg #[.pointer (some ⟨1, 107, Option.none⟩)])] t frozen
      | o => o }
theorem laidWorld_met (os : Os) (args : Array Value) : laidMetH Tryd.prog laidL ((laidWorld os).forCall (fun _ _ => 0) ⟨#[], args, []⟩).memory :=
  laidMetH_of_parts (laidMet_nil _ _) (by kernel_rfl)
/-! What the listed variable holds. -/
/-! The program's order of start-up, letter by letter: what is said of it is then soon shown. -/
def orderN : List Nat := [104, 97, 114, 110, 101, 115, 115, 32, 52, 51, 55, 51, 50, 49, 102, 55, 48, 48, 50, 49, 100, 55, 53, 49, 98, 55, 102, 54, 57, 52, 102, 101, 54, 102, 52, 54, 99, 48, 98, 99, 101, 56, 49, 49, 56, 98, 100, 51, 55, 102, 52, 101, 52, 49, 49, 99, 97, 53, 99, 100, 55, 50, 51, 98, 48, 101, 48, 53, 57, 50, 100, 98, 32, 99, 117, 116, 32, 97, 116, 32, 109, 117, 115, 99, 111, 118, 97, 100, 111, 47, 109, 117, 115, 99, 111, 118, 97, 100, 111, 108, 97, 119, 48, 57, 46, 70, 105, 110, 105, 110, 103, 66, 111, 116, 104, 115, 32, 109, 117, 115, 99, 111, 118, 97, 100, 111, 47, 109, 117, 115, 99, 111, 118, 97, 100, 111, 108, 97, 119, 48, 57, 46, 70, 105, 110, 105, 110, 103, 67, 104, 101, 97, 112, 101, 115, 116, 32, 109, 117, 115, 99, 111, 118, 97, 100, 111, 47, 109, 117, 115, 99, 111, 118, 97, 100, 111, 108, 97, 119, 48, 57, 46, 70, 105, 110, 105, 110, 103, 66, 111, 116, 104, 32, 109, 117, 115, 99, 111, 118, 97, 100, 111, 47, 109, 117, 115, 99, 111, 118, 97, 100, 111, 108, 97, 119, 48, 57, 46, 70, 105, 110, 105, 110, 103, 84, 101, 108, 108, 115, 32, 109, 117, 115, 99, 111, 118, 97, 100, 111, 47, 109, 117, 115, 99, 111, 118, 97, 100, 111, 108, 97, 119, 48, 57, 46, 70, 105, 110, 105, 110, 103, 80, 117, 116, 32, 109, 117, 115, 99, 111, 118, 97, 100, 111, 47, 109, 117, 115, 99, 111, 118, 97, 100, 111, 108, 97, 119, 48, 57, 46, 70, 105, 110, 105, 110, 103, 80, 117, 116, 115, 32, 109, 117, 115, 99, 111, 118, 97, 100, 111, 47, 109, 117, 115, 99, 111, 118, 97, 100, 111, 108, 97, 119, 48, 57, 46, 70, 105, 110, 105, 110, 103, 77, 111, 114, 101, 32, 109, 117, 115, 99, 111, 118, 97, 100, 111, 47, 109, 117, 115, 99, 111, 118, 97, 100, 111, 108, 97, 119, 48, 57, 46, 70, 105, 110, 105, 110, 103, 78, 117, 109, 98, 101, 114, 101, 100, 32, 109, 117, 115, 99, 111, 118, 97, 100, 111, 47, 109, 117, 115, 99, 111, 118, 97, 100, 111, 108, 97, 119, 48, 57, 46, 70, 105, 110, 105, 110, 103, 78, 101, 101, 100, 115, 32, 109, 117, 115, 99, 111, 118, 97, 100, 111, 47, 109, 117, 115, 99, 111, 118, 97, 100, 111, 108, 97, 119, 48, 57, 46, 70, 105, 110, 105, 110, 103, 78, 101, 101, 100, 101, 100, 32, 109, 117, 115, 99, 111, 118, 97, 100, 111, 47, 109, 117, 115, 99, 111, 118, 97, 100, 111, 108, 97, 119, 48, 57, 46, 70, 105, 110, 105, 110, 103, 87, 97, 121, 115, 32, 109, 117, 115, 99, 111, 118, 97, 100, 111, 47, 109, 117, 115, 99, 111, 118, 97, 100, 111, 108, 97, 119, 48, 57, 46, 70, 105, 110, 105, 110, 103, 82, 101, 97, 99, 104, 32, 109, 117, 115, 99, 111, 118, 97, 100, 111, 47, 109, 117, 115, 99, 111, 118, 97, 100, 111, 108, 97, 119, 48, 57, 46, 70, 105, 110, 105, 110, 103, 83, 104, 111, 114, 116, 101, 115, 116, 32, 109, 117, 115, 99, 111, 118, 97, 100, 111, 47, 109, 117, 115, 99, 111, 118, 97, 100, 111, 108, 97, 119, 48, 57, 46, 70, 105, 110, 105, 110, 103, 72, 111, 112, 101, 108, 101, 115, 115, 32, 109, 117, 115, 99, 111, 118, 97, 100, 111, 47, 109, 117, 115, 99, 111, 118, 97, 100, 111, 108, 97, 119, 48, 57, 46, 70, 105, 110, 105, 110, 103, 70, 97, 117, 108, 116, 115, 32, 109, 117, 115, 99, 111, 118, 97, 100, 111, 47, 109, 117, 115, 99, 111, 118, 97, 100, 111, 108, 97, 119, 48, 57, 46, 70, 105, 110, 105, 110, 103, 72, 111, 112, 101, 115, 32, 109, 117, 115, 99, 111, 118, 97, 100, 111, 47, 109, 117, 115, 99, 111, 118, 97, 100, 111, 108, 97, 119, 48, 57, 46, 70, 105, 110, 105, 110, 103, 70, 101, 119, 101, 115, 116, 32, 109, 117, 115, 99, 111, 118, 97, 100, 111, 47, 109, 117, 115, 99, 111, 118, 97, 100, 111, 108, 97, 119, 48, 57, 46, 70, 105, 110, 105, 110, 103, 75, 110, 111, 119, 110]
def wordsN : List (List Nat) := [[104, 97, 114, 110, 101, 115, 115], [52, 51, 55, 51, 50, 49, 102, 55, 48, 48, 50, 49, 100, 55, 53, 49, 98, 55, 102, 54, 57, 52, 102, 101, 54, 102, 52, 54, 99, 48, 98, 99, 101, 56, 49, 49, 56, 98, 100, 51, 55, 102, 52, 101, 52, 49, 49, 99, 97, 53, 99, 100, 55, 50, 51, 98, 48, 101, 48, 53, 57, 50, 100, 98], [99, 117, 116], [97, 116], [109, 117, 115, 99, 111, 118, 97, 100, 111, 47, 109, 117, 115, 99, 111, 118, 97, 100, 111, 108, 97, 119, 48, 57, 46, 70, 105, 110, 105, 110, 103, 66, 111, 116, 104, 115], [109, 117, 115, 99, 111, 118, 97, 100, 111, 47, 109, 117, 115, 99, 111, 118, 97, 100, 111, 108, 97, 119, 48, 57, 46, 70, 105, 110, 105, 110, 103, 67, 104, 101, 97, 112, 101, 115, 116], [109, 117, 115, 99, 111, 118, 97, 100, 111, 47, 109, 117, 115, 99, 111, 118, 97, 100, 111, 108, 97, 119, 48, 57, 46, 70, 105, 110, 105, 110, 103, 66, 111, 116, 104], [109, 117, 115, 99, 111, 118, 97, 100, 111, 47, 109, 117, 115, 99, 111, 118, 97, 100, 111, 108, 97, 119, 48, 57, 46, 70, 105, 110, 105, 110, 103, 84, 101, 108, 108, 115], [109, 117, 115, 99, 111, 118, 97, 100, 111, 47, 109, 117, 115, 99, 111, 118, 97, 100, 111, 108, 97, 119, 48, 57, 46, 70, 105, 110, 105, 110, 103, 80, 117, 116], [109, 117, 115, 99, 111, 118, 97, 100, 111, 47, 109, 117, 115, 99, 111, 118, 97, 100, 111, 108, 97, 119, 48, 57, 46, 70, 105, 110, 105, 110, 103, 80, 117, 116, 115], [109, 117, 115, 99, 111, 118, 97, 100, 111, 47, 109, 117, 115, 99, 111, 118, 97, 100, 111, 108, 97, 119, 48, 57, 46, 70, 105, 110, 105, 110, 103, 77, 111, 114, 101], [109, 117, 115, 99, 111, 118, 97, 100, 111, 47, 109, 117, 115, 99, 111, 118, 97, 100, 111, 108, 97, 119, 48, 57, 46, 70, 105, 110, 105, 110, 103, 78, 117, 109, 98, 101, 114, 101, 100], [109, 117, 115, 99, 111, 118, 97, 100, 111, 47, 109, 117, 115, 99, 111, 118, 97, 100, 111, 108, 97, 119, 48, 57, 46, 70, 105, 110, 105, 110, 103, 78, 101, 101, 100, 115], [109, 117, 115, 99, 111, 118, 97, 100, 111, 47, 109, 117, 115, 99, 111, 118, 97, 100, 111, 108, 97, 119, 48, 57, 46, 70, 105, 110, 105, 110, 103, 78, 101, 101, 100, 101, 100], [109, 117, 115, 99, 111, 118, 97, 100, 111, 47, 109, 117, 115, 99, 111, 118, 97, 100, 111, 108, 97, 119, 48, 57, 46, 70, 105, 110, 105, 110, 103, 87, 97, 121, 115], [109, 117, 115, 99, 111, 118, 97, 100, 111, 47, 109, 117, 115, 99, 111, 118, 97, 100, 111, 108, 97, 119, 48, 57, 46, 70, 105, 110, 105, 110, 103, 82, 101, 97, 99, 104], [109, 117, 115, 99, 111, 118, 97, 100, 111, 47, 109, 117, 115, 99, 111, 118, 97, 100, 111, 108, 97, 119, 48, 57, 46, 70, 105, 110, 105, 110, 103, 83, 104, 111, 114, 116, 101, 115, 116], [109, 117, 115, 99, 111, 118, 97, 100, 111, 47, 109, 117, 115, 99, 111, 118, 97, 100, 111, 108, 97, 119, 48, 57, 46, 70, 105, 110, 105, 110, 103, 72, 111, 112, 101, 108, 101, 115, 115], [109, 117, 115, 99, 111, 118, 97, 100, 111, 47, 109, 117, 115, 99, 111, 118, 97, 100, 111, 108, 97, 119, 48, 57, 46, 70, 105, 110, 105, 110, 103, 70, 97, 117, 108, 116, 115], [109, 117, 115, 99, 111, 118, 97, 100, 111, 47, 109, 117, 115, 99, 111, 118, 97, 100, 111, 108, 97, 119, 48, 57, 46, 70, 105, 110, 105, 110, 103, 72, 111, 112, 101, 115], [109, 117, 115, 99, 111, 118, 97, 100, 111, 47, 109, 117, 115, 99, 111, 118, 97, 100, 111, 108, 97, 119, 48, 57, 46, 70, 105, 110, 105, 110, 103, 70, 101, 119, 101, 115, 116], [109, 117, 115, 99, 111, 118, 97, 100, 111, 47, 109, 117, 115, 99, 111, 118, 97, 100, 111, 108, 97, 119, 48, 57, 46, 70, 105, 110, 105, 110, 103, 75, 110, 111, 119, 110]]
set_option maxRecDepth 100000 in
theorem order_ : Tryd.prog.initOrder = String.ofList (orderN.map Char.ofNat) := by kernel_rfl
theorem orderL_ : Tryd.prog.initOrder.toList = orderN.map Char.ofNat := by rw [order_, String.toList_ofList]
def wordN (k : Nat) : List Char := (wordsN.getD k []).map Char.ofNat
def wordR : List (List Char) := (wordsN.drop 3).map (·.map Char.ofNat)
set_option maxRecDepth 100000 in
theorem words0_ : wordsSigns Tryd.prog.initOrder.toList = wordN 0 :: wordN 1 :: wordN 2 :: wordR := by
  rw [orderL_]
  kernel_rfl
theorem behind_of {a b : List Char} {r : List (List Char)} (h1 : (a == "harness".toList || a == "ownmain".toList) = true) (h2 : isSumSigns b = true) : behindMainWord (a :: b :: r) = r := by
  unfold behindMainWord
  dsimp only
  rw [h1, h2]
  rfl
theorem words_ : behindMainWord (wordsSigns Tryd.prog.initOrder.toList) = wordN 2 :: wordR := by
  rw [words0_]
  exact behind_of (by kernel_rfl) (by kernel_rfl)
theorem make_of {P : Program} {c : List Char} {rest : List (List Char)} (h : behindMainWord (wordsSigns P.initOrder.toList) = c :: rest) (h1 : (c == "gc".toList || c == "spec".toList) = false) (h2 : (c == "cut".toList) = true) : P.make = some .cut := by
  unfold Program.make
  rw [h]
  dsimp only
  rw [h1, h2]
  rfl
theorem may_of {P : Program} {c : List Char} {rest : List (List Char)} (h : behindMainWord (wordsSigns P.initOrder.toList) = c :: rest) (h1 : (stripLifts liftWords (c :: rest)).1 = []) (h2 : ((stripLifts liftWords (c :: rest)).2.head? == some "cut".toList) = true) (h3 : P.laysLater = false) (h4 : P.bearsReflect = false) (h5 : P.doorFits [] = true) : P.mayEnter = true := by
  unfold Program.mayEnter
  rw [h]
  dsimp only
  rw [h1, h2, h3, h4, h5]
  simp
theorem lifts_of {P : Program} {c : List Char} {rest : List (List Char)} (h : behindMainWord (wordsSigns P.initOrder.toList) = c :: rest) (h1 : (stripLifts liftWords (c :: rest)).1 = []) (h2 : (c == "carried".toList) = false) : P.liftsFinal = false := by
  have e : (some c == some "carried".toList) = false := h2
  unfold Program.liftsFinal Program.headLifts
  dsimp only
  rw [h, h1, List.head?_cons, e]
  simp
theorem main_of {P : Program} {a b : List Char} {r : List (List Char)} {s : String} (h : wordsSigns P.initOrder.toList = a :: b :: r) (h1 : isSumSigns b = true) (h2 : (a == "harness".toList) = true) (h3 : s = String.ofList b) : P.mainIs = some (true, s.toList) := by
  unfold Program.mainIs
  rw [h]
  dsimp only
  rw [h1, h2, h3]
  simp [String.toList_ofList]
theorem word_lifts : (stripLifts liftWords (wordN 2 :: wordR)).1 = [] := by kernel_rfl
set_option maxRecDepth 100000 in
theorem make_ : Tryd.prog.make = some .cut := make_of words_ (by kernel_rfl) (by kernel_rfl)
set_option maxRecDepth 100000 in
theorem lifts_ : Tryd.prog.liftsFinal = false := lifts_of words_ word_lifts (by kernel_rfl)
set_option maxRecDepth 100000 in
theorem main_ : Tryd.prog.mainIs = some (true, "437321f70021d751b7f694fe6f46c0bce8118bd37f4e411ca5cd723b0e0592db".toList) := main_of words0_ (by kernel_rfl) (by kernel_rfl) (by kernel_rfl)
set_option maxRecDepth 100000 in
theorem laysLater_ : Tryd.prog.laysLater = false := by kernel_rfl
set_option maxRecDepth 100000 in
theorem bearsReflect_ : Tryd.prog.bearsReflect = false := by kernel_rfl
set_option maxRecDepth 100000 in
theorem door_ : Tryd.prog.doorFits [] = true := by kernel_rfl
set_option maxRecDepth 100000 in
theorem may_ : Tryd.prog.mayEnter = true := may_of words_ word_lifts (by kernel_rfl) laysLater_ bearsReflect_ door_
set_option maxRecDepth 100000 in
theorem mapsRowed_ : mapsRowed Tryd.prog = true := by kernel_rfl
set_option maxRecDepth 100000 in
theorem plainKeys_ : Tryd.prog.plainKeys = false := by kernel_rfl
set_option maxRecDepth 100000 in
theorem stopsHeard_ : Tryd.prog.stopsHeard = true := by kernel_rfl
set_option maxRecDepth 100000 in
theorem looks_ : Tryd.prog.looks [] = true := by kernel_rfl
/-- A tied card whose calls can start goroutines. -/
theorem holds_tied_goes (Lk : Looks) {p : Pinned} {s : OpenSpec} {c : OpenClaim} (kinds : List LaidKind) (tests : Bool) (har : Bool × String) (lk g : Bool)
    (hc : c.holds p s) (hw : c.wfByText s = true) (htie : c.laidByTextAt Lk p kinds tests)
    (hst : c.start = .entering) (hnb : c.noBlocks = false ∧ c.again = false) (hm : p.checked.prog.mainIs = some (har.1, har.2.toList)) (hn : (!har.1 && har.2.isEmpty && !lk) = false)
    (hl : ∀ f fn, p.checked.prog.funcNamed c.func = some f → p.checked.prog.funcs[f]? = some fn → lk = p.checked.prog.looks [] ∧ ∀ (j : Nat) t, fn.params[j]? = some t → p.checked.prog.wantsStandIn t = false)
    (hg : g = c.goesBy p.checked.prog) :
    Claim7.holds p (.plain s) { stood := { row := c, standIns := [], harness := har, looks := lk }, kinds := [], alts := [], goes := g, laidByText := true, laidKinds := kinds, laidTests := tests, laidLooks := Lk } := by
  have h6 : ∀ r : OpenClaim, Claim7.isSixth { stood := { row := r, standIns := [], harness := har, looks := lk }, kinds := [] } = false := fun r => by simpa [Claim7.isSixth] using hn
  refine ⟨Claim7.tied_new_at Lk kinds tests (Claim7.new_of_sixth hc har lk hst hnb hm (h6 c) hl) hw, fun D hD => ?_, htie, (fun h => by cases h), hg⟩
  cases hD
end Go.Proofs.YtofkhehcnfiopaaDoor.N
/- What rows of laws about agents share: lists of numbers, agents and lists of agents out of what the statement lets the input be. -/
namespace Go.Proofs.YtofkhehcnfiopaaDoor.N
open Go Go.ChangeShapes Go.WideShapes Go.ChangeAt Go.RowKit Go.Proofs Go.Proofs.YtofkhehcnfiopaaDoor Go.Proofs.YtofkhehcnfiopaaDoor.Rows
theorem trodAll_below {H : Type} {enc : TypeId × Value → H} {W W' : World} (hn : Below W.heap.size W W') : ∀ {ts : List TypeId} {vs : List Value} {ds : List (DataW H)} {ps : List MemPlace},
    (∀ t ∈ ts, Tryd.prog.readableRec t = true ∧ t < Tryd.prog.types.size) → DataW.TrodAll enc Tryd.prog W 0 (fun _ => true) true ts vs ds ps → (∀ x ∈ ps, x.block < W.heap.size) →
    DataW.TrodAll enc Tryd.prog W' 0 (fun b => decide (b < W.heap.size)) true ts vs ds ps
  | [], _, _, _, _, h, _ => by
    obtain ⟨rfl, rfl, rfl⟩ := trodAll_nil h
    exact trodAll_mk0
  | t :: ts, vs, ds, ps, hr, h, hlt => by
    obtain ⟨v, vs', d, ds', p, q, rfl, rfl, rfl, h1, h2⟩ := trodAll_cons h
    exact trodAll_cons_mk (Below.trod laidOut_ (hr t (by simp)).1 (hr t (by simp)).2 h1 hn (fun x hx => hlt x (List.mem_append_left _ hx))) (trodAll_below hn (fun u hu => hr u (by simp [hu])) h2 (fun x hx => hlt x (List.mem_append_right _ hx)))
set_option maxRecDepth 100000 in
/-- A law's answer out of its call. -/
theorem grown_post {H : Type} {enc : TypeId × Value → H} {f : FuncId} {fn : Func} {s : ChangeSpec} (hr : fn.resultTypes = #[4]) (hs : s.vars = []) (hread : ∀ t ∈ fn.params.toList, Tryd.prog.readableRec t = true ∧ t < Tryd.prog.types.size)
    {W : World} {args : Array Value} {ds gs : List (DataW H)} {before : List MemPlace} (hfn : s.fn H ds = { results := [.lit (.bool true)], args := ds })
    (hW : DataW.Whole enc Tryd.prog fn.params.toList s.vars false W args.toList ds gs before)
    (hc : Calls Tryd.prog f args W fun e w' => e = .returned (.bool true) ∧ Grew W w' []) :
    Calls Tryd.prog f args W fun e W' => ∃ v, e = .returned v ∧ s.post enc Tryd.prog fn false true false false W args v W' := by
  have hW' := hW
  obtain ⟨p, q, hA, hV, rfl, _, _⟩ := hW
  rw [hs] at hV
  obtain ⟨rfl, rfl⟩ := trodVars_none hV
  simp only [List.append_nil] at hW'
  refine hc.mono fun e W' ⟨he, hg⟩ => ?_
  subst he
  refine ⟨_, rfl, _, _, _, [], p, [], hW', ?_, ?_, ?_, hg.1.frame _, fun h => Bool.noConfusion h⟩
  · rw [List.append_nil, hfn, hr]; exact trodAll_mk1 (shut_bool und4_ true)
  · rw [List.append_nil, hfn]; exact trodAll_below hg.1 hread hA (fun x hx => hW'.lt x hx)
  · rw [List.append_nil, hfn, hs]; rfl
set_option maxRecDepth 100000 in
/-- A list of numbers. -/
theorem slice_ints {H : Type} {enc : TypeId × Value → H} {W : World} {base : Nat} {v : Value} {d : DataW H} {p : List MemPlace} (hok : Value.okWide Tryd.prog W .any base 25 v)
    (h : DataW.Trod enc Tryd.prog W 0 (fun _ => true) true 25 v d p) (hlt : ∀ x ∈ p, x.block < W.heap.size) :
    ∃ (A : Option Addr) (c : Nat) (l : List Int), v = .slice A l.length c ∧ RdL icell 1 W A l ∧ (A = Option.none → l = [] ∧ c = 0) := by
  obtain ⟨a0, len, cap, rfl⟩ := okWide_slice und25_ hok
  obtain ⟨fuel, hf⟩ := h
  rcases open_ints und25_ und3_ cells3_ hf with ⟨hcs, hx⟩ | ⟨a, len', cap', zs, hcs, _, hl, hm, hz, hx, hcell, hwz⟩
  · simp [Value.cells] at hcs
    obtain ⟨rfl, rfl, rfl⟩ := hcs
    exact ⟨_, _, [], rfl, fun h => absurd h (by simp), fun _ => ⟨rfl, rfl⟩⟩
  · simp [Value.cells] at hcs
    obtain ⟨rfl, rfl, rfl⟩ := hcs
    simp only [Prod.mk.injEq] at hx
    obtain ⟨rfl, rfl⟩ := hx
    simp only [if_true] at hz
    obtain ⟨b, off, spot⟩ := a
    have hlen : (zs.take len).length = len := by rw [List.length_take]; omega
    refine ⟨_, cap, zs.take len, by rw [hlen], fun hpos => ?_, fun h => by cases h⟩
    rw [hlen] at hpos
    have hspot : spot = Option.none := by simpa [Addr.add] using World.cell?_spot (hcell 0 (by omega))
    subst hspot
    refine ⟨b, off, rfl, hlt (.cell b off) (MemPlace.mem_row.2 ⟨0, by omega, by simp⟩), fun k x hk j u hu => ?_⟩
    rw [List.getElem?_take] at hk
    split at hk
    · rename_i hkl
      cases j with
      | zero =>
        simp [icell] at hu
        subst hu
        have := hcell k (by omega)
        rw [List.getD_eq_getElem?_getD, hk] at this
        rw [Nat.mul_one, Nat.add_zero]
        rw [add_plain] at this
        exact this
      | succ j => simp [icell] at hu
    · cases hk
set_option maxRecDepth 100000 in
/-- An agent. -/
theorem agent_cells {H : Type} {enc : TypeId × Value → H} {W : World} {fuel : Nat} {cs : List Value} {x : DataW H × List MemPlace} (h : DataW.trod enc Tryd.prog W 0 (fun _ => true) true fuel 24 cs = some x) :
    ∃ y : RA, y.wf ∧ cs = y.cells := by
  obtain ⟨xs, n, _, _, hcl, hxl, hf⟩ := DataW.trod_struct Tryd.underlying24 h
  rw [co24] at hcl
  match cs, hcl with
  | [v0, v1, v2, v3, v4], _ =>
    have g : ∀ (i : Nat) (v : Value), ([v0, v1, v2, v3, v4] : List Value)[i]? = some v → i < 5 → ∃ m, v = .int .i64 m ∧ W64 m := by
      intro i v hi h5
      have key : ∀ x, DataW.trod enc Tryd.prog W 0 (fun _ => true) true n 3 [v] = some x → ∃ m, v = .int .i64 m ∧ W64 m := fun x hx => by
        obtain ⟨m, h1, _, h3⟩ := DataW.trod_int und3_ hx
        exact ⟨m, List.singleton_inj.1 h1, bounds_i64 h3⟩
      match i, h5 with
      | 0, _ =>
        have := hf 0 _ rfl
        simp [cells3_] at this hi
        subst hi
        exact key _ (this.trans (List.getElem?_eq_getElem (by simp [hxl])))
      | 1, _ =>
        have := hf 1 _ rfl
        simp [cells3_] at this hi
        subst hi
        exact key _ (this.trans (List.getElem?_eq_getElem (by simp [hxl])))
      | 2, _ =>
        have := hf 2 _ rfl
        simp [cells3_] at this hi
        subst hi
        exact key _ (this.trans (List.getElem?_eq_getElem (by simp [hxl])))
      | 3, _ =>
        have := hf 3 _ rfl
        simp [cells3_] at this hi
        subst hi
        exact key _ (this.trans (List.getElem?_eq_getElem (by simp [hxl])))
      | 4, _ =>
        have := hf 4 _ rfl
        simp [cells3_] at this hi
        subst hi
        exact key _ (this.trans (List.getElem?_eq_getElem (by simp [hxl])))
    obtain ⟨m0, rfl, w0⟩ := g 0 v0 rfl (by omega)
    obtain ⟨m1, rfl, w1⟩ := g 1 v1 rfl (by omega)
    obtain ⟨m2, rfl, w2⟩ := g 2 v2 rfl (by omega)
    obtain ⟨m3, rfl, w3⟩ := g 3 v3 rfl (by omega)
    obtain ⟨m4, rfl, w4⟩ := g 4 v4 rfl (by omega)
    exact ⟨⟨m0, m1, m2, m3, m4⟩, ⟨w0, w1, w2, w3, w4⟩, rfl⟩
set_option maxRecDepth 100000 in
theorem arg_agent {H : Type} {enc : TypeId × Value → H} {W : World} {base : Nat} {v : Value} {d : DataW H} {p : List MemPlace} (hok : Value.okWide Tryd.prog W .any base 24 v)
    (h : DataW.Trod enc Tryd.prog W 0 (fun _ => true) true 24 v d p) : ∃ y : RA, y.wf ∧ v = .agg y.cells.toArray := by
  obtain ⟨cs, rfl, _⟩ := okWide_struct Tryd.underlying24 hok
  obtain ⟨fuel, hf⟩ := h
  obtain ⟨y, hy, hc⟩ := agent_cells hf
  simp only [Value.cells] at hc
  exact ⟨y, hy, by rw [← hc]⟩
set_option maxRecDepth 100000 in
/-- A list of agents. -/
theorem slice_agents {H : Type} {enc : TypeId × Value → H} {W : World} {base : Nat} {v : Value} {d : DataW H} {p : List MemPlace} (hok : Value.okWide Tryd.prog W .any base 22 v)
    (h : DataW.Trod enc Tryd.prog W 0 (fun _ => true) true 22 v d p) (hlt : ∀ x ∈ p, x.block < W.heap.size) :
    ∃ (A : Option Addr) (c : Nat) (l : List RA), v = .slice A l.length c ∧ RdL RA.cells 5 W A l ∧ (∀ y ∈ l, y.wf) ∧ (A = Option.none → l = [] ∧ c = 0) := by
  obtain ⟨a0, len, cap, rfl⟩ := okWide_slice Tryd.underlying22 hok
  obtain ⟨fuel, hf⟩ := h
  rcases Go.Deep.open_slice Tryd.underlying22 hf with ⟨hcs, hx⟩ | ⟨a, len', cap', m, n, D, Pl, hcs, _, hl, hm, hmm, hx, hi⟩
  · simp [Value.cells] at hcs
    obtain ⟨rfl, rfl, rfl⟩ := hcs
    exact ⟨_, _, [], rfl, fun h => absurd h (by simp), fun y hy => (List.not_mem_nil hy).elim, fun _ => ⟨rfl, rfl⟩⟩
  · simp [Value.cells] at hcs
    obtain ⟨rfl, rfl, rfl⟩ := hcs
    simp only [Prod.mk.injEq] at hx
    obtain ⟨rfl, rfl⟩ := hx
    simp only [if_true] at hmm
    subst hmm
    rw [co24] at hi
    obtain ⟨Y, hY⟩ := Go.Deep.choose_lt (α := RA) (p := fun i y => y.wf ∧ ∀ j u, y.cells[j]? = some u → W.cell? (a.add (i * 5 + j)) = some u) (fun i hlt' => by
      obtain ⟨cs', h1, h2⟩ := hi i hlt'
      obtain ⟨y, hy, rfl⟩ := agent_cells h2
      obtain ⟨_, _, h3⟩ := World.cells?_some h1
      refine ⟨y, hy, fun j u hu => ?_⟩
      have hj : j < 5 := by
        have := (List.getElem?_eq_some_iff.1 hu).1
        simpa [RA.cells] using this
      have := h3 j hj
      rw [hu, Go.Deep.add_add] at this
      exact this)
    have hlen : ((List.range len).map Y).length = len := by simp
    obtain ⟨b, off, spot⟩ := a
    refine ⟨_, m, (List.range len).map Y, by rw [hlen], fun hpos => ?_, fun y hy => ?_, fun h => by cases h⟩
    · rw [hlen] at hpos
      have hspot : spot = Option.none := by simpa [Addr.add] using World.cell?_spot ((hY 0 (by omega)).2 0 _ rfl)
      subst hspot
      refine ⟨b, off, rfl, hlt (.cell b off) (List.mem_append_left _ (MemPlace.mem_row.2 ⟨0, by rw [co24]; omega, by simp⟩)), fun k x hk j u hu => ?_⟩
      rw [List.getElem?_map] at hk
      obtain ⟨i, h1, rfl⟩ := Option.map_eq_some_iff.1 hk
      obtain ⟨h2, h3⟩ := List.getElem?_eq_some_iff.1 h1
      rw [List.getElem_range] at h3
      subst h3
      rw [List.length_range] at h2
      have := (hY k (by omega)).2 j u hu
      rw [add_plain, ← Nat.add_assoc] at this
      exact this
    · obtain ⟨i, h1, rfl⟩ := List.mem_map.1 hy
      exact (hY i (by have := List.mem_range.1 h1; omega)).1
set_option maxRecDepth 100000 in
theorem read22_ : Tryd.prog.readableRec 22 = true ∧ 22 < Tryd.prog.types.size := ⟨by kernel_rfl, of_decide_eq_true (by kernel_rfl)⟩
set_option maxRecDepth 100000 in
theorem read24_ : Tryd.prog.readableRec 24 = true ∧ 24 < Tryd.prog.types.size := ⟨by kernel_rfl, of_decide_eq_true (by kernel_rfl)⟩
set_option maxRecDepth 100000 in
theorem read3_ : Tryd.prog.readableRec 3 = true ∧ 3 < Tryd.prog.types.size := ⟨by kernel_rfl, of_decide_eq_true (by kernel_rfl)⟩
theorem read25b_ : Tryd.prog.readableRec 25 = true ∧ 25 < Tryd.prog.types.size := ⟨read25_, size_⟩
end Go.Proofs.YtofkhehcnfiopaaDoor.N
