/- Parts of the walks of the laws on fining, those that FiningWays needs: F29, Rds, PutS, F31, PutL, Sx10, F33, Raw, All, Eqa, F35, Sx11, F36, Puts, F37, Sx12, Dist, F38, F39, All2, Puts3, BothP, Sx13, All3, Far2, All4. -/
import Derived.Test.YtofkhehcnfiopaaDoorSFiningWays07
import Derived.Test.YtofkhehcnfiopaaDoorProg
import Derived.DeepKeys3
import Derived.Test.YtofkhehcnfiopaaDoorSFiningWays06
namespace Go.Proofs.YtofkhehcnfiopaaDoor.N
open Go Go.RowKit Go.Proofs
set_option linter.unusedSectionVars false
variable [I : Sys]
theorem F.ent47 : Enters Tryd.prog 47 := enters_of Tryd.func47 rfl (by kernel_rfl)
theorem F.ent82 : Enters Tryd.prog 82 := enters_of Tryd.func82 rfl (by kernel_rfl)
theorem F.ent86 : Enters Tryd.prog 86 := enters_of Tryd.func86 rfl (by kernel_rfl)
theorem F.ent97 : Enters Tryd.prog 97 := enters_of Tryd.func97 rfl (by kernel_rfl)
theorem among_c (n lo hi : Int) (w : World) : Calls Tryd.prog 82 #[.int .i64 n, .int .i64 lo, .int .i64 hi] w fun e w' => e = .returned (.bool (inB n lo hi)) ∧ Grew w w' [] := by
  refine enter (N := 15) [(0, .int .i64 n), (1, .int .i64 lo), (2, .int .i64 hi)] Tryd.func82 rfl Tryd.ntmps82 rfl rfl ?_
  refine cod_seq ?_
  refine cod_region ?_
  refine lst_assign rfl rfl ?_
  refine lst_nil ?_
  refine ex_then ?_
  refine cod_seq ?_
  refine cod_region ?_
  refine lst_cut1 8 14 (.bool (inB n lo hi)) ?_ ?_
  · skip
    refine lst_move rfl rfl ?_
    refine lst_move rfl rfl ?_
    refine lst_int rfl rfl rfl bin_geq ?_
    refine lst_move rfl rfl ?_
    refine lst_split_bool (t := 10) rfl (fun hg10 => ?_) (fun hg10 => ?_)
    · skip
      refine lst_on rfl rfl ?_
      refine lst_move rfl rfl ?_
      refine lst_on rfl rfl ?_
      refine lst_move rfl rfl ?_
      refine lst_on rfl rfl ?_
      refine lst_int rfl rfl rfl bin_leq ?_
      refine lst_pick_true rfl rfl rfl ?_
      refine lst_nil ?_
      exact ex_cut (.cons (by first | (simp_all [look, inB]; done) | (simp_all [look, inB]; omega)) sbn) sbl
    · skip
      refine lst_off rfl rfl rfl ?_
      refine lst_off rfl rfl rfl ?_
      refine lst_off rfl rfl rfl ?_
      refine lst_pick_false rfl rfl rfl ?_
      refine lst_nil ?_
      exact ex_cut (.cons (by first | (simp_all [look, inB]; done) | (simp_all [look, inB]; omega)) sbn) sbl
  refine lst_assign rfl rfl ?_
  refine lst_nil ?_
  refine ex_then ?_
  refine cod_ret ?_
  refine ex_ret rfl (fun a w ha => res_one rfl rfl ha) (fun a w ha => ⟨by rfl, ha.grown (List.nil_sublist _)⟩)

theorem rcheck_c (A : Option Addr) (c : Nat) (l : List RA) (w : World) (hA : RdL RA.cells 5 w A l) : Calls Tryd.prog 47 #[.slice A l.length c] w fun e w' => e = .returned (.int .i64 ((checkR l : Nat) : Int)) ∧ Grew w w' [] := by
  refine enter (N := 50) [(0, .slice A l.length c)] Tryd.func47 rfl Tryd.ntmps47 rfl rfl ?_
  refine cod_seq ?_
  refine cod_region ?_
  refine lst_assign rfl rfl ?_
  refine lst_nil ?_
  refine ex_then ?_
  refine cod_seq ?_
  refine cod_seq ?_
  refine cod_region ?_
  refine lst_move rfl rfl ?_
  refine lst_len rfl rfl Tryd.underlying22 ?_
  refine lst_int rfl rfl rfl bin_gtr ?_
  refine lst_nil ?_
  refine ex_then ?_
  refine cod_cond_dec rfl (fun hc0 => ?_) (fun hc0 => ?_)
  · skip
    refine cod_seq ?_
    refine cod_region ?_
    refine lst_assign rfl rfl ?_
    refine lst_nil ?_
    refine ex_then ?_
    refine cod_ret ?_
    refine ex_then_ret ?_
    refine ex_ret rfl (fun a w ha => res_one rfl rfl ha) (fun a w ha => ⟨by rw [show checkR l = 6 from if_pos (by omega)]; rfl, ha.grown (List.nil_sublist _)⟩)
  · skip
    have hl4 : l.length ≤ 4 := by omega
    have hcr : checkR l = firstBad l := if_neg (by omega)
    refine cod_skip ?_
    refine ex_then ?_
    refine cod_seq ?_
    refine cod_seq ?_
    refine cod_region ?_
    refine lst_assign rfl rfl ?_
    refine lst_nil ?_
    refine ex_then ?_
    refine cod_block ?_
    refine cod_loop (G := Nat) (fun k => k ≤ l.length ∧ ∀ y ∈ l.take k, y.bad = 0) (fun k => l.length - k) (fun k => [(0, .slice A l.length c), (3, .int .i64 (k : Int))]) (fun k => []) 0 ⟨Nat.zero_le _, by simp⟩ sbn sbl ?_
    intro k hk
    (try dsimp only at hk ⊢)
    refine cod_seq ?_
    refine cod_seq ?_
    refine cod_region ?_
    refine lst_move rfl rfl ?_
    refine lst_move rfl rfl ?_
    refine lst_len rfl rfl Tryd.underlying22 ?_
    refine lst_int rfl rfl rfl bin_lss ?_
    refine lst_nil ?_
    refine ex_then ?_
    refine cod_cond_dec rfl (fun hc1 => ?_) (fun hc1 => ?_)
    · skip
      have hk' : k < l.length := by omega
      obtain ⟨b, o, rfl, hb, hcell⟩ := hA (by omega)
      obtain ⟨x, hx⟩ : ∃ x, l[k]? = some x := ⟨_, List.getElem?_eq_getElem hk'⟩
      have hpos : x.bad ≠ 0 → checkR l = x.bad := by
        intro hne
        rw [hcr, ← List.take_append_drop k l, firstBad_pre hk.2, List.drop_eq_getElem_cons hk', firstBad]
        have : l[k] = x := by rw [List.getElem?_eq_getElem hk'] at hx; exact Option.some.inj hx
        rw [this, if_pos hne]
      refine cod_skip ?_
      refine ex_then ?_
      refine cod_seq ?_
      refine cod_block ?_
      refine cod_seq ?_
      refine cod_region ?_
      refine lst_move rfl rfl ?_
      refine lst_move rfl rfl ?_
      refine lst_index (j := k) rfl rfl rfl Tryd.underlying22 F.ti24 rfl hk' ?_
      refine lst_loadN_at (l := [.int .i64 x.needs, .int .i64 x.no, .int .i64 x.takes, .int .i64 x.leaves, .int .i64 x.cost]) rfl rfl F.agg24 F.ti24 rfl (fun a w ha j u hu => ha.old (hcell k x hx j u hu) hb) ?_
      refine lst_alloc rfl F.ti24 ?_
      intro b4
      refine lst_store rfl rfl F.ti24 rfl ?_
      refine lst_nil ?_
      refine ex_then ?_
      refine cod_seq ?_
      refine cod_seq ?_
      refine cod_region ?_
      refine lst_cut1 22 39 (.bool (!(allB x.four))) ?_ ?_
      · skip
        refine lst_field_z rfl rfl F.fi24_0 F.ti3 ?_
        refine lst_load rfl rfl F.one3 ?_
        refine lst_fn0 (vs := [_, _, _]) rfl rfl F.ent82 (fun a w ha => among_c x.needs 0 63 w) ?_
        refine lst_not rfl rfl ?_
        refine lst_move rfl rfl ?_
        refine lst_split_bool (t := 22) rfl (fun hg22 => ?_) (fun hg22 => ?_)
        · skip
          refine lst_off rfl rfl rfl ?_
          refine lst_off rfl rfl rfl ?_
          refine lst_off rfl rfl rfl ?_
          refine lst_off rfl rfl rfl ?_
          refine lst_pick_true rfl rfl rfl ?_
          refine lst_move rfl rfl ?_
          refine lst_split_bool (t := 28) rfl (fun hg28 => ?_) (fun hg28 => ?_)
          · skip
            refine lst_off rfl rfl rfl ?_
            refine lst_off rfl rfl rfl ?_
            refine lst_off rfl rfl rfl ?_
            refine lst_off rfl rfl rfl ?_
            refine lst_pick_true rfl rfl rfl ?_
            refine lst_move rfl rfl ?_
            refine lst_split_bool (t := 34) rfl (fun hg34 => ?_) (fun hg34 => ?_)
            · skip
              refine lst_off rfl rfl rfl ?_
              refine lst_off rfl rfl rfl ?_
              refine lst_off rfl rfl rfl ?_
              refine lst_off rfl rfl rfl ?_
              refine lst_pick_true rfl rfl rfl ?_
              refine lst_nil ?_
              exact ex_cut (.cons (by simp_all [look, allB, RA.four]) sbn) sbl
            · skip
              refine lst_on rfl rfl ?_
              refine lst_field_z rfl rfl F.fi24_3 F.ti3 ?_
              refine lst_on rfl rfl ?_
              refine lst_load rfl rfl F.one3 ?_
              refine lst_on rfl rfl ?_
              refine lst_fn0 (vs := [_, _, _]) rfl rfl F.ent82 (fun a w ha => among_c x.leaves 0 63 w) ?_
              refine lst_on rfl rfl ?_
              refine lst_not rfl rfl ?_
              refine lst_pick_false rfl rfl rfl ?_
              refine lst_nil ?_
              exact ex_cut (.cons (by simp_all []) sbn) sbl
          · skip
            refine lst_on rfl rfl ?_
            refine lst_field_z rfl rfl F.fi24_2 F.ti3 ?_
            refine lst_on rfl rfl ?_
            refine lst_load rfl rfl F.one3 ?_
            refine lst_on rfl rfl ?_
            refine lst_fn0 (vs := [_, _, _]) rfl rfl F.ent82 (fun a w ha => among_c x.takes 0 63 w) ?_
            refine lst_on rfl rfl ?_
            refine lst_not rfl rfl ?_
            refine lst_pick_false rfl rfl rfl ?_
            refine lst_move rfl rfl ?_
            refine lst_split_bool (t := 34) rfl (fun hg34 => ?_) (fun hg34 => ?_)
            · skip
              refine lst_off rfl rfl rfl ?_
              refine lst_off rfl rfl rfl ?_
              refine lst_off rfl rfl rfl ?_
              refine lst_off rfl rfl rfl ?_
              refine lst_pick_true rfl rfl rfl ?_
              refine lst_nil ?_
              exact ex_cut (.cons (by simp_all []) sbn) sbl
            · skip
              refine lst_on rfl rfl ?_
              refine lst_field_z rfl rfl F.fi24_3 F.ti3 ?_
              refine lst_on rfl rfl ?_
              refine lst_load rfl rfl F.one3 ?_
              refine lst_on rfl rfl ?_
              refine lst_fn0 (vs := [_, _, _]) rfl rfl F.ent82 (fun a w ha => among_c x.leaves 0 63 w) ?_
              refine lst_on rfl rfl ?_
              refine lst_not rfl rfl ?_
              refine lst_pick_false rfl rfl rfl ?_
              refine lst_nil ?_
              exact ex_cut (.cons (by simp_all []) sbn) sbl
        · skip
          refine lst_on rfl rfl ?_
          refine lst_field_z rfl rfl F.fi24_1 F.ti3 ?_
          refine lst_on rfl rfl ?_
          refine lst_load rfl rfl F.one3 ?_
          refine lst_on rfl rfl ?_
          refine lst_fn0 (vs := [_, _, _]) rfl rfl F.ent82 (fun a w ha => among_c x.no 0 63 w) ?_
          refine lst_on rfl rfl ?_
          refine lst_not rfl rfl ?_
          refine lst_pick_false rfl rfl rfl ?_
          refine lst_move rfl rfl ?_
          refine lst_split_bool (t := 28) rfl (fun hg28 => ?_) (fun hg28 => ?_)
          · skip
            refine lst_off rfl rfl rfl ?_
            refine lst_off rfl rfl rfl ?_
            refine lst_off rfl rfl rfl ?_
            refine lst_off rfl rfl rfl ?_
            refine lst_pick_true rfl rfl rfl ?_
            refine lst_move rfl rfl ?_
            refine lst_split_bool (t := 34) rfl (fun hg34 => ?_) (fun hg34 => ?_)
            · skip
              refine lst_off rfl rfl rfl ?_
              refine lst_off rfl rfl rfl ?_
              refine lst_off rfl rfl rfl ?_
              refine lst_off rfl rfl rfl ?_
              refine lst_pick_true rfl rfl rfl ?_
              refine lst_nil ?_
              exact ex_cut (.cons (by simp_all [look, allB, RA.four]) sbn) sbl
            · skip
              refine lst_on rfl rfl ?_
              refine lst_field_z rfl rfl F.fi24_3 F.ti3 ?_
              refine lst_on rfl rfl ?_
              refine lst_load rfl rfl F.one3 ?_
              refine lst_on rfl rfl ?_
              refine lst_fn0 (vs := [_, _, _]) rfl rfl F.ent82 (fun a w ha => among_c x.leaves 0 63 w) ?_
              refine lst_on rfl rfl ?_
              refine lst_not rfl rfl ?_
              refine lst_pick_false rfl rfl rfl ?_
              refine lst_nil ?_
              exact ex_cut (.cons (by simp_all []) sbn) sbl
          · skip
            refine lst_on rfl rfl ?_
            refine lst_field_z rfl rfl F.fi24_2 F.ti3 ?_
            refine lst_on rfl rfl ?_
            refine lst_load rfl rfl F.one3 ?_
            refine lst_on rfl rfl ?_
            refine lst_fn0 (vs := [_, _, _]) rfl rfl F.ent82 (fun a w ha => among_c x.takes 0 63 w) ?_
            refine lst_on rfl rfl ?_
            refine lst_not rfl rfl ?_
            refine lst_pick_false rfl rfl rfl ?_
            refine lst_move rfl rfl ?_
            refine lst_split_bool (t := 34) rfl (fun hg34 => ?_) (fun hg34 => ?_)
            · skip
              refine lst_off rfl rfl rfl ?_
              refine lst_off rfl rfl rfl ?_
              refine lst_off rfl rfl rfl ?_
              refine lst_off rfl rfl rfl ?_
              refine lst_pick_true rfl rfl rfl ?_
              refine lst_nil ?_
              exact ex_cut (.cons (by simp_all [look, allB, RA.four]) sbn) sbl
            · skip
              refine lst_on rfl rfl ?_
              refine lst_field_z rfl rfl F.fi24_3 F.ti3 ?_
              refine lst_on rfl rfl ?_
              refine lst_load rfl rfl F.one3 ?_
              refine lst_on rfl rfl ?_
              refine lst_fn0 (vs := [_, _, _]) rfl rfl F.ent82 (fun a w ha => among_c x.leaves 0 63 w) ?_
              refine lst_on rfl rfl ?_
              refine lst_not rfl rfl ?_
              refine lst_pick_false rfl rfl rfl ?_
              refine lst_nil ?_
              exact ex_cut (.cons (by simp_all [look, allB, RA.four]) sbn) sbl
      refine lst_nil ?_
      refine ex_then ?_
      refine cod_cond_bool rfl (fun hc2 => ?_) (fun hc2 => ?_)
      · skip
        refine cod_seq ?_
        refine cod_region ?_
        refine lst_assign rfl rfl ?_
        refine lst_nil ?_
        refine ex_then ?_
        refine cod_ret ?_
        refine ex_then_ret ?_
        refine ex_block_ret ?_
        refine ex_then_ret ?_
        refine ex_then_ret ?_
        refine ex_block_ret ?_
        refine ex_then_ret ?_
        have hb1 : x.bad = 1 := if_pos (by simpa using hc2)
        refine ex_ret rfl (fun a w ha => res_one rfl rfl ha) (fun a w ha => ⟨by rw [hpos (by omega), hb1]; rfl, ha.grown (List.nil_sublist _)⟩)
      · skip
        have h4 : allB x.four = true := by simpa using hc2
        have h4' := h4
        simp only [allB, RA.four, List.all_cons, List.all_nil, Bool.and_true, Bool.and_eq_true, inB_true] at h4'
        obtain ⟨n1, hn1⟩ := Int.eq_ofNat_of_zero_le h4'.1.1
        obtain ⟨n2, hn2⟩ := Int.eq_ofNat_of_zero_le h4'.2.1.1
        have hn1' : n1 < 64 := by omega
        have hn2' : n2 < 64 := by omega
        have hbad : x.bad = if n1 &&& n2 ≠ 0 then 9 else if inB x.cost 1 9 = false then 1 else 0 := by
          unfold RA.bad
          rw [if_neg (by rw [h4]; simp), hn1, hn2, Int.toNat_natCast, Int.toNat_natCast]
        rw [hn1, hn2]
        refine cod_skip ?_
        refine ex_then ?_
        refine cod_seq ?_
        refine cod_seq ?_
        refine cod_region ?_
        refine lst_field_z rfl rfl F.fi24_0 F.ti3 ?_
        refine lst_load rfl rfl F.one3 ?_
        refine lst_field_z rfl rfl F.fi24_1 F.ti3 ?_
        refine lst_load rfl rfl F.one3 ?_
        refine lst_int rfl rfl rfl (fun w => bin_and w (i64_and n1 n2 (by omega) (by omega))) ?_
        refine lst_int rfl rfl rfl bin_neq ?_
        refine lst_nil ?_
        refine ex_then ?_
        refine cod_cond_dec rfl (fun hc3 => ?_) (fun hc3 => ?_)
        · skip
          refine cod_seq ?_
          refine cod_region ?_
          refine lst_assign rfl rfl ?_
          refine lst_nil ?_
          refine ex_then ?_
          refine cod_ret ?_
          refine ex_then_ret ?_
          refine ex_block_ret ?_
          refine ex_then_ret ?_
          refine ex_then_ret ?_
          refine ex_block_ret ?_
          refine ex_then_ret ?_
          have hb9 : x.bad = 9 := by rw [hbad, if_pos (by omega)]
          refine ex_ret rfl (fun a w ha => res_one rfl rfl ha) (fun a w ha => ⟨by rw [hpos (by omega), hb9]; rfl, ha.grown (List.nil_sublist _)⟩)
        · skip
          have h5 : ¬ (n1 &&& n2 ≠ 0) := by omega
          rw [if_neg h5] at hbad
          refine cod_skip ?_
          refine ex_then ?_
          refine cod_seq ?_
          refine cod_region ?_
          refine lst_field_z rfl rfl F.fi24_4 F.ti3 ?_
          refine lst_load rfl rfl F.one3 ?_
          refine lst_fn0 (vs := [_, _, _]) rfl rfl F.ent82 (fun a w ha => among_c x.cost 1 9 w) ?_
          refine lst_not rfl rfl ?_
          refine lst_nil ?_
          refine ex_then ?_
          refine cod_cond_bool rfl (fun hc4 => ?_) (fun hc4 => ?_)
          · skip
            refine cod_seq ?_
            refine cod_region ?_
            refine lst_assign rfl rfl ?_
            refine lst_nil ?_
            refine ex_then ?_
            refine cod_ret ?_
            refine ex_block_ret ?_
            refine ex_then_ret ?_
            refine ex_then_ret ?_
            refine ex_block_ret ?_
            refine ex_then_ret ?_
            have hb1 : x.bad = 1 := by rw [hbad, if_pos (by simpa using hc4)]
            refine ex_ret rfl (fun a w ha => res_one rfl rfl ha) (fun a w ha => ⟨by rw [hpos (by omega), hb1]; rfl, ha.grown (List.nil_sublist _)⟩)
          · skip
            have hb0 : x.bad = 0 := by rw [hbad, if_neg (by simpa using hc4)]
            have htake : l.take (k + 1) = l.take k ++ [x] := by rw [List.take_add_one, hx]; rfl
            refine cod_skip ?_
            refine ex_block_normal ?_
            refine ex_then ?_
            refine cod_region ?_
            refine lst_move rfl rfl ?_
            refine lst_int rfl rfl rfl (fun w => bin_add w (wrap_i64' _ (by omega) (by omega))) ?_
            refine lst_assign rfl rfl ?_
            refine lst_nil ?_
            refine ex_round (k + 1) ⟨by omega, by rw [htake]; intro y hy; rcases List.mem_append.1 hy with h | h; exact hk.2 y h; simp at h; subst h; exact hb0⟩ (by (try dsimp only); omega) sbn sbl
    · skip
      refine cod_exit ?_
      refine ex_then_exit ?_
      refine ex_then_exit ?_
      refine ex_block_exit ?_
      refine ex_then ?_
      refine cod_seq ?_
      refine cod_region ?_
      refine lst_assign rfl rfl ?_
      refine lst_nil ?_
      refine ex_then ?_
      refine cod_ret ?_
      have hz : checkR l = 0 := by
        have h := hk.2
        rw [List.take_of_length_le (by omega)] at h
        rw [hcr, ← List.append_nil l, firstBad_pre h]; rfl
      refine ex_ret rfl (fun a w ha => res_one rfl rfl ha) (fun a w ha => ⟨by rw [hz]; rfl, ha.grown (List.nil_sublist _)⟩)

theorem asked_c (A : Option Addr) (c : Nat) (l : List RA) (m p : Int) (w : World) (hA : RdL RA.cells 5 w A l) : Calls Tryd.prog 86 #[.slice A l.length c, .int .i64 m, .int .i64 p] w fun e w' => e = .returned (.int .i64 ((askedR l m p : Nat) : Int)) ∧ Grew w w' [] := by
  refine enter (N := 21) [(0, .slice A l.length c), (1, .int .i64 m), (2, .int .i64 p)] Tryd.func86 rfl Tryd.ntmps86 rfl rfl ?_
  refine cod_seq ?_
  refine cod_region ?_
  refine lst_assign rfl rfl ?_
  refine lst_nil ?_
  refine ex_then ?_
  refine cod_seq ?_
  refine cod_seq ?_
  refine cod_region ?_
  refine lst_move rfl rfl ?_
  refine lst_fn0 (vs := [_]) rfl rfl F.ent47 (fun a w ha => rcheck_c A c l w (hA.later ha.below)) ?_
  refine lst_assign rfl rfl ?_
  refine lst_nil ?_
  refine ex_then ?_
  refine cod_seq ?_
  refine cod_region ?_
  refine lst_move rfl rfl ?_
  refine lst_int rfl rfl rfl bin_neq ?_
  refine lst_nil ?_
  refine ex_then ?_
  refine cod_cond_dec rfl (fun hc0 => ?_) (fun hc0 => ?_)
  · skip
    have hc : ¬ checkR l = 0 := by omega
    refine cod_seq ?_
    refine cod_region ?_
    refine lst_move rfl rfl ?_
    refine lst_assign rfl rfl ?_
    refine lst_nil ?_
    refine ex_then ?_
    refine cod_ret ?_
    refine ex_then_ret ?_
    refine ex_ret rfl (fun a w ha => res_one rfl rfl ha) (fun a w ha => ⟨by rw [show askedR l m p = checkR l from if_pos hc], ha.grown (List.nil_sublist _)⟩)
  · skip
    have hc : ¬ ¬ checkR l = 0 := by omega
    refine cod_skip ?_
    refine ex_then ?_
    refine cod_seq ?_
    refine cod_seq ?_
    refine cod_region ?_
    refine lst_cut1 8 20 (.bool (!(inB m 0 63 && inB p 0 63))) ?_ ?_
    · skip
      refine lst_move rfl rfl ?_
      refine lst_fn0 (vs := [_, _, _]) rfl rfl F.ent82 (fun a w ha => among_c m 0 63 w) ?_
      refine lst_not rfl rfl ?_
      refine lst_move rfl rfl ?_
      refine lst_split_bool (t := 16) rfl (fun hg16 => ?_) (fun hg16 => ?_)
      · skip
        refine lst_off rfl rfl rfl ?_
        refine lst_off rfl rfl rfl ?_
        refine lst_off rfl rfl rfl ?_
        refine lst_pick_true rfl rfl rfl ?_
        refine lst_nil ?_
        exact ex_cut (.cons (by simp_all [look]) sbn) sbl
      · skip
        refine lst_on rfl rfl ?_
        refine lst_move rfl rfl ?_
        refine lst_on rfl rfl ?_
        refine lst_fn0 (vs := [_, _, _]) rfl rfl F.ent82 (fun a w ha => among_c p 0 63 w) ?_
        refine lst_on rfl rfl ?_
        refine lst_not rfl rfl ?_
        refine lst_pick_false rfl rfl rfl ?_
        refine lst_nil ?_
        exact ex_cut (.cons (by simp_all [look]) sbn) sbl
    refine lst_nil ?_
    refine ex_then ?_
    refine cod_cond_bool rfl (fun hc1 => ?_) (fun hc1 => ?_)
    · skip
      have he : askedR l m p = 1 := by unfold askedR; rw [if_neg hc, if_neg (by intro h; rw [h] at hc1; cases hc1)]
      refine cod_seq ?_
      refine cod_region ?_
      refine lst_assign rfl rfl ?_
      refine lst_nil ?_
      refine ex_then ?_
      refine cod_ret ?_
      refine ex_then_ret ?_
      refine ex_ret rfl (fun a w ha => res_one rfl rfl ha) (fun a w ha => ⟨by rw [he]; rfl, ha.grown (List.nil_sublist _)⟩)
    · skip
      have he : askedR l m p = 0 := by unfold askedR; rw [if_neg hc, if_pos (by cases h : (inB m 0 63 && inB p 0 63) with | true => rfl | false => rw [h] at hc1; cases hc1)]
      refine cod_skip ?_
      refine ex_then ?_
      refine cod_seq ?_
      refine cod_region ?_
      refine lst_assign rfl rfl ?_
      refine lst_nil ?_
      refine ex_then ?_
      refine cod_ret ?_
      refine ex_ret rfl (fun a w ha => res_one rfl rfl ha) (fun a w ha => ⟨by rw [he]; rfl, ha.grown (List.nil_sublist _)⟩)

theorem rmay_c (x : Ag) (f : Nat) (hx : x.ok) (hf : f < 64) (w : World) : Calls Tryd.prog 97 #[.agg [.int .i64 (x.needs : Int), .int .i64 (x.no : Int), .int .i64 (x.takes : Int), .int .i64 (x.leaves : Int), .int .i64 (x.cost : Int)].toArray, .int .i64 (f : Int)] w fun e w' => e = .returned (.bool (mayN x f)) ∧ Grew w w' [] := by
  have h1 := hx.needs; have h2 := hx.no; clear hx
  refine enter (N := 19) [(0, .agg [.int .i64 (x.needs : Int), .int .i64 (x.no : Int), .int .i64 (x.takes : Int), .int .i64 (x.leaves : Int), .int .i64 (x.cost : Int)].toArray), (1, .int .i64 (f : Int))] Tryd.func97 rfl Tryd.ntmps97 rfl rfl ?_
  refine cod_seq ?_
  refine cod_region ?_
  refine lst_box rfl rfl ?_
  intro b2
  refine lst_assign rfl rfl ?_
  refine lst_nil ?_
  refine ex_then ?_
  refine cod_seq ?_
  refine cod_region ?_
  refine lst_cut1 14 18 (.bool (mayN x f)) ?_ ?_
  · skip
    refine lst_move rfl rfl ?_
    refine lst_field_z rfl rfl F.fi24_0 F.ti3 ?_
    refine lst_load rfl rfl F.one3 ?_
    refine lst_int rfl rfl rfl (fun w => bin_and w (i64_and f x.needs (by omega) (by omega))) ?_
    refine lst_field_z rfl rfl F.fi24_0 F.ti3 ?_
    refine lst_load rfl rfl F.one3 ?_
    refine lst_int rfl rfl rfl bin_eql ?_
    refine lst_move rfl rfl ?_
    refine lst_split (t := 12) rfl (fun hg12 => ?_) (fun hg12 => ?_)
    · skip
      refine lst_on rfl rfl ?_
      refine lst_move rfl rfl ?_
      refine lst_on rfl rfl ?_
      refine lst_field_z rfl rfl F.fi24_1 F.ti3 ?_
      refine lst_on rfl rfl ?_
      refine lst_load rfl rfl F.one3 ?_
      refine lst_on rfl rfl ?_
      refine lst_int rfl rfl rfl (fun w => bin_and w (i64_and f x.no (by omega) (by omega))) ?_
      refine lst_on rfl rfl ?_
      refine lst_int rfl rfl rfl bin_eql ?_
      refine lst_pick_true rfl rfl rfl ?_
      refine lst_nil ?_
      exact ex_cut (.cons (by first | (rw [may_and]; simp [look, hg12]; omega) | (rw [may_and]; simp [look, hg12]) | (rw [may_and]; simp_all [look]; omega)) sbn) sbl
    · skip
      refine lst_off rfl rfl rfl ?_
      refine lst_off rfl rfl rfl ?_
      refine lst_off rfl rfl rfl ?_
      refine lst_off rfl rfl rfl ?_
      refine lst_off rfl rfl rfl ?_
      refine lst_pick_false rfl rfl rfl ?_
      refine lst_nil ?_
      exact ex_cut (.cons (by first | (rw [may_and]; simp [look, hg12]; omega) | (rw [may_and]; simp [look, hg12]) | (rw [may_and]; simp_all [look]; omega)) sbn) sbl
  refine lst_assign rfl rfl ?_
  refine lst_nil ?_
  refine ex_then ?_
  refine cod_ret ?_
  refine ex_ret rfl (fun a w ha => res_one rfl rfl ha) (fun a w ha => ⟨by rfl, ha.grown (List.nil_sublist _)⟩)

theorem rafter_c (x : Ag) (f : Nat) (hx : x.ok) (hf : f < 64) (w : World) : Calls Tryd.prog 94 #[.agg [.int .i64 (x.needs : Int), .int .i64 (x.no : Int), .int .i64 (x.takes : Int), .int .i64 (x.leaves : Int), .int .i64 (x.cost : Int)].toArray, .int .i64 (f : Int)] w fun e w' => e = .returned (.int .i64 ((putN x f : Nat) : Int)) ∧ Grew w w' [] := by
  have h1 := hx.takes; have h2 := hx.leaves; clear hx
  refine enter (N := 12) [(0, .agg [.int .i64 (x.needs : Int), .int .i64 (x.no : Int), .int .i64 (x.takes : Int), .int .i64 (x.leaves : Int), .int .i64 (x.cost : Int)].toArray), (1, .int .i64 (f : Int))] Tryd.func94 rfl Tryd.ntmps94 rfl rfl ?_
  refine cod_seq ?_
  refine cod_region ?_
  refine lst_box rfl rfl ?_
  intro b2
  refine lst_assign rfl rfl ?_
  refine lst_nil ?_
  refine ex_then ?_
  refine cod_seq ?_
  refine cod_region ?_
  refine lst_move rfl rfl ?_
  refine lst_field_z rfl rfl F.fi24_2 F.ti3 ?_
  refine lst_load rfl rfl F.one3 ?_
  refine lst_int rfl rfl rfl (fun w => bin_andNot w (i64_andNot f x.takes (by omega) (by omega))) ?_
  refine lst_field_z rfl rfl F.fi24_3 F.ti3 ?_
  refine lst_load rfl rfl F.one3 ?_
  have h3 : nn f x.takes < 64 := nn64 hf
  refine lst_int rfl rfl rfl (fun w => bin_or w (i64_or (nn f x.takes) x.leaves (by omega) (by omega))) ?_
  refine lst_assign rfl rfl ?_
  refine lst_nil ?_
  refine ex_then ?_
  refine cod_ret ?_
  refine ex_ret rfl (fun a w ha => res_one rfl rfl ha) (fun a w ha => ⟨by rfl, ha.grown (List.nil_sublist _)⟩)

end Go.Proofs.YtofkhehcnfiopaaDoor.N
namespace Go.Proofs.YtofkhehcnfiopaaDoor.N
open Go Go.RowKit Go.Proofs
set_option linter.unusedSectionVars false
variable [I : Sys]
/-- A slice that reads as a list wherever some things are held. -/
def Rds {α : Type} (cells : α → List Value) (size : Nat) (C : Ctx) (T : List Res) (A : Option Addr) (l : List α) : Prop :=
  ∀ (C' : Ctx) (fr : List (Nat × Value)) (hp : List Res) (a : Act) (w : World), At C' fr hp a w → C'.P = C.P → C'.B = C.B → C'.w0 = C.w0 → (∀ r ∈ T, r ∈ hp) → RdL cells size w A l
theorem Rds.row {α : Type} {cells : α → List Value} {size : Nat} {C : Ctx} {T : List Res} {A : Option Addr} {l : List α} {e c : Nat} (hs : ∀ x, (cells x).length = size) (h : Res.row e size A l.length c (l.flatMap cells) ∈ T) : Rds cells size C T A l :=
  fun _ _ _ _ _ ha _ _ _ hm => row_reads ha hs (hm _ h) rfl
theorem Rds.blk {α : Type} {cells : α → List Value} {size : Nat} {C : Ctx} {T : List Res} {b ct : Nat} {l : List α} (hs : ∀ x, (cells x).length = size) (h : Res.blk b (.cells (l.flatMap cells).toArray ct (0, 0)) ∈ T) : Rds cells size C T (some ⟨b, 0, none⟩) l := by
  intro C' fr hp a w ha _ _ _ hm _
  refine ⟨b, 0, rfl, (Res.lt (ha.own _ (hm _ h)) b rfl).2, fun k x hk j u hu => ?_⟩
  rw [Nat.zero_add]
  exact cell_of_blk (ha.mem_blk (hm _ h)) (flatMap_get hs l k x hk j u hu)
theorem Rds.old {α : Type} {cells : α → List Value} {size : Nat} {C : Ctx} {T : List Res} {A : Option Addr} {l : List α} (h : RdL cells size C.w0 A l) (hB : C.w0.heap.size = C.B) : Rds cells size C T A l := by
  intro C' fr hp a w ha _ h2 h3 _ hl
  obtain ⟨b, o, e1, e2, e3⟩ := h hl
  have hbB : b < C'.B := by rw [h2, ← hB]; exact e2
  refine ⟨b, o, e1, ?_, fun k x hk j u hu => ?_⟩
  · have h4 := ha.below.size
    rw [h3] at h4
    omega
  · exact ha.old (by rw [h3]; exact e3 k x hk j u hu) hbB
/-- What becomes of a melt along a way; else the error. -/
def alongE (ags : List Ag) : Nat → List Int → Except Nat (List Nat)
  | _, [] => .ok []
  | f, n :: l => if inB n 0 ((ags.length : Int) - 1) = false then .error 3 else if mayN (ags.getD n.toNat default) f = false then .error 12 else (alongE ags (putN (ags.getD n.toNat default) f) l).map (putN (ags.getD n.toNat default) f :: ·)
/-- The outs so far, and what is still to come. -/
def goesOn (outs : List Nat) (r : Except Nat (List Nat)) : Except Nat (List Nat) := r.map (outs ++ ·)
theorem goesOn_nil (r : Except Nat (List Nat)) : goesOn [] r = r := by cases r <;> rfl
theorem alongE_step {ags : List Ag} {f k : Nat} {n : Int} {way : List Int} (hn : way[k]? = some n) : alongE ags f (way.drop k) = if inB n 0 ((ags.length : Int) - 1) = false then .error 3 else if mayN (ags.getD n.toNat default) f = false then .error 12 else (alongE ags (putN (ags.getD n.toNat default) f) (way.drop (k + 1))).map (putN (ags.getD n.toNat default) f :: ·) := by
  obtain ⟨hk, he⟩ := List.getElem?_eq_some_iff.1 hn
  rw [List.drop_eq_getElem_cons hk, he]
  rfl
theorem goesOn_step (outs : List Nat) (x : Nat) (r : Except Nat (List Nat)) : goesOn outs (r.map (x :: ·)) = goesOn (outs ++ [x]) r := by
  cases r with
  | error c => rfl
  | ok l =>
    show Except.ok (outs ++ (x :: l)) = Except.ok ((outs ++ [x]) ++ l)
    rw [List.append_assoc]; rfl
end Go.Proofs.YtofkhehcnfiopaaDoor.N
namespace Go.Proofs.YtofkhehcnfiopaaDoor.N
open Go Go.RowKit Go.Proofs
set_option linter.unusedSectionVars false
variable [I : Sys]
/-- What Put says. -/
def PutS (ags : List Ag) (f : Nat) (way : List Int) (outs : List Nat) (E : Nat) : Prop :=
  (way.length ≤ 20 ∧ alongE ags f way = .ok outs ∧ E = 0 ∧ outs.length = way.length) ∨ (way.length ≤ 20 ∧ alongE ags f way = .error E ∧ (E = 3 ∨ E = 12) ∧ outs = []) ∨ (20 < way.length ∧ E = 6 ∧ outs = [])
theorem PutS.len {ags : List Ag} {f E : Nat} {way : List Int} {outs : List Nat} (h : PutS ags f way outs E) : outs.length ≤ 20 := by
  rcases h with ⟨h1, _, _, h4⟩ | ⟨_, _, _, rfl⟩ | ⟨_, _, rfl⟩
  · omega
  · simp
  · simp
end Go.Proofs.YtofkhehcnfiopaaDoor.N
namespace Go.Proofs.YtofkhehcnfiopaaDoor.N
open Go Go.RowKit Go.Proofs
set_option linter.unusedSectionVars false
variable [I : Sys]
theorem F.ent94 : Enters Tryd.prog 94 := enters_of Tryd.func94 rfl (by kernel_rfl)
end Go.Proofs.YtofkhehcnfiopaaDoor.N
namespace Go.Proofs.YtofkhehcnfiopaaDoor.N
open Go Go.RowKit Go.Proofs
set_option linter.unusedSectionVars false
variable [I : Sys]
def castL (l : List Nat) : List Int := l.map fun (n : Nat) => (n : Int)
def lastN (m : Nat) (l : List Nat) : Nat := l.getLast?.getD m
theorem lastN_snoc (m : Nat) (l : List Nat) (x : Nat) : lastN m (l ++ [x]) = x := by
  unfold lastN
  simp
theorem castL_len (l : List Nat) : (castL l).length = l.length := List.length_map ..
theorem castL_get {l : List Nat} {i x : Nat} (h : l[i]? = some x) : (castL l)[i]? = some (x : Int) := by
  unfold castL
  rw [List.getElem?_map, h]; rfl
/-- The law's own way through the list. -/
structure Wlk (ags : List Ag) (m : Nat) (W : List Nat) (i now due : Nat) : Prop where
  lt : now < 64
  go : due = 0 → ∃ pre, pre.length = i ∧ lastN m pre = now ∧ alongE ags m (castL W) = goesOn pre (alongE ags now ((castL W).drop i))
  bad : due ≠ 0 → (due = 3 ∨ due = 12) ∧ alongE ags m (castL W) = .error due
theorem Wlk.zero {ags : List Ag} {m : Nat} {W : List Nat} (hm : m < 64) : Wlk ags m W 0 m 0 := ⟨hm, fun _ => ⟨[], rfl, rfl, by rw [goesOn_nil]; rfl⟩, fun h => absurd rfl h⟩
theorem Wlk.bar {ags : List Ag} {m now i x : Nat} {W : List Nat} (h : Wlk ags m W i now 0) (hx : W[i]? = some x) (hb : x < ags.length) (hm : mayN (ags.getD x default) now = false) : Wlk ags m W (i + 1) now 12 := by
  obtain ⟨pre, _, _, h3⟩ := h.go rfl
  rw [alongE_step (castL_get hx), if_neg (by rw [Bool.not_eq_false, inB_true]; omega), Int.toNat_natCast, if_pos hm] at h3
  exact ⟨h.lt, fun e => absurd e (by decide), fun _ => ⟨.inr rfl, h3⟩⟩
theorem Wlk.next {ags : List Ag} {m now i x : Nat} {W : List Nat} (hok : Oks ags) (h : Wlk ags m W i now 0) (hx : W[i]? = some x) (hb : x < ags.length) (hm : mayN (ags.getD x default) now = true) : Wlk ags m W (i + 1) (putN (ags.getD x default) now) 0 := by
  obtain ⟨pre, h1, h2, h3⟩ := h.go rfl
  rw [alongE_step (castL_get hx), if_neg (by rw [Bool.not_eq_false, inB_true]; omega), Int.toNat_natCast, if_neg (by rw [hm]; simp), goesOn_step] at h3
  exact ⟨putN_lt (agd_ok hok hb) h.lt, fun _ => ⟨_, by rw [List.length_append, h1]; rfl, lastN_snoc _ _ _, h3⟩, fun e => absurd rfl e⟩
/-- What the law finds agrees with Put. -/
theorem Wlk.ends {ags : List Ag} {m now i due E : Nat} {W outs : List Nat} (h : Wlk ags m W i now due) (hput : PutS ags m (castL W) outs E) (hi : i ≤ W.length) (hend : (decide ((i : Int) < (W.length : Int)) && decide ((due : Int) = 0)) = false) (h20 : W.length ≤ 20) :
    E = due ∧ (due ≠ 0 → outs = []) ∧ (due = 0 → lastN m outs = now ∧ outs.length = W.length ∧ alongE ags m (castL W) = .ok outs) := by
  have hwl := castL_len W
  by_cases hd : due = 0
  · subst hd
    obtain ⟨pre, h1, h2, h3⟩ := h.go rfl
    simp at hend
    obtain rfl : i = W.length := by omega
    rw [show (castL W).drop W.length = [] by rw [← hwl, List.drop_length]] at h3
    have h4 : alongE ags m (castL W) = .ok pre := by rw [h3]; show Except.ok (pre ++ []) = _; rw [List.append_nil]
    rcases hput with ⟨_, g1, g2, g3⟩ | ⟨_, g1, _⟩ | ⟨g1, _⟩
    · rw [h4] at g1
      obtain rfl := Except.ok.inj g1
      exact ⟨g2, fun e => absurd rfl e, fun _ => ⟨h2, by omega, h4⟩⟩
    · rw [h4] at g1; cases g1
    · omega
  · obtain ⟨_, h2⟩ := h.bad hd
    rcases hput with ⟨_, g1, _⟩ | ⟨_, g1, _, g3⟩ | ⟨g1, _⟩
    · rw [h2] at g1; cases g1
    · rw [h2] at g1
      exact ⟨(Except.error.inj g1).symm, fun _ => g3, fun e => absurd e hd⟩
    · omega
theorem PutS.ok {ags : List Ag} {f E : Nat} {way : List Int} {outs o : List Nat} (h : PutS ags f way outs E) (hl : way.length ≤ 20) (ho : alongE ags f way = .ok o) : E = 0 ∧ outs = o := by
  rcases h with ⟨_, g1, g2, _⟩ | ⟨_, g1, _⟩ | ⟨g1, _⟩
  · rw [ho] at g1
    exact ⟨g2, (Except.ok.inj g1).symm⟩
  · rw [ho] at g1; cases g1
  · omega
theorem PutS.long {ags : List Ag} {f E : Nat} {way : List Int} {outs : List Nat} (h : PutS ags f way outs E) (hl : 20 < way.length) : E = 6 ∧ outs = [] := by
  rcases h with ⟨g, _⟩ | ⟨g, _⟩ | ⟨_, g⟩
  · omega
  · omega
  · exact g
end Go.Proofs.YtofkhehcnfiopaaDoor.N
namespace Go.Proofs.YtofkhehcnfiopaaDoor.N
open Go Go.RowKit Go.Proofs
set_option linter.unusedSectionVars false
variable [I : Sys]
section
variable {C : Ctx} {fr : List (Nat × Value)} {hp hp' : List Res} {a : Act} {w : World} {ops : Array Oper} {Q : Exit → Act → World → Prop} {rest : List Oper}
  {d : Nat} {ty : TypeId} {pos : String} {after : Array Edge}
/-- The ways out of a region that may panic. -/
def OnlyP (Q : Exit → Act → World → Prop) : Exit → Act → World → Prop
  | .normal, a, w => Q .normal a w
  | .panic ch, a, w => Q (.panic ch) a w
  | _, _, _ => False
theorem ex_only_panic {ch : List PanicEntry} (h : Ex C Q (.panic ch) fr hp) : Ex C (Lax (OnlyP Q)) (.panic ch) fr hp := fun a w ha => Lax.of (h a w ha)
def AnyP (C : Ctx) (ops : Array Oper) (Q : Exit → Act → World → Prop) (hpS : List Res) (fuel : Nat) (listed : Array Bool) (fr : List (Nat × Value)) (hp : List Res) : Prop :=
  ∀ a w, At C fr hp a w → wpAnyH C.P .any ops (Lax (OnlyP Q)) (Mem C hpS) fuel listed a w
variable {hpS : List Res} {fuel : Nat} {listed listed' : Array Bool}
theorem anyp_start {id : Nat} {l : List Oper} (hm : C.P.follows .mixedOrders = true) (n : Nat) (hn : l.length = n) (lst : List Bool) (hl : Array.replicate n false = lst.toArray) (_hs : hpS.Sublist hp) (h : AnyP C l.toArray Q hpS n lst.toArray fr hp) :
    Cod C (.region id l.toArray true) Q fr hp := by
  intro a w ha
  refine wp_mono (Q := OnlyP Q) (wp_lax (wp_region_held (S := Mem C hpS) hm ?_)) ?_
  · have h1 := h a _ ha
    rw [← hl] at h1
    simpa [hn] using h1
  · intro e a' w' he
    cases e with
    | normal => exact he
    | panic ch => exact he
    | _ => exact he.elim
def NxtP (C : Ctx) (ops : Array Oper) (Q : Exit → Act → World → Prop) (hpS : List Res) (fuel : Nat) (listed : Array Bool) (a : Act) (w : World) : Prop :=
  Mem C hpS w ∧ wpAnyH C.P .any ops (Lax (OnlyP Q)) (Mem C hpS) fuel listed a w
theorem opp_of_lst {i : Nat} {o : Oper} (hi : ops[i]? = some o) {K : Act → World → Prop} (h : Lst C ops (Exit.then K (Lax (OnlyP Q))) [o] fr hp) (ha : At C fr hp a w) : wpOp C.P ops (Lax (OnlyP Q)) i K a w := by
  have h := h a w ha
  unfold wpOp
  simp only [hi]
  simp only [wpList] at h
  split at h
  · rename_i hw
    rw [if_pos hw]
    exact h.mono (fun _ _ x => x) (fun _ _ _ x => x)
  · rename_i hw
    rw [if_neg hw]
    exact h
theorem anyp_one {o : Oper} (i : Nat) (hr : Region.ready .any ops listed = [i]) (hi : ops[i]? = some o) (hl : listed.setIfInBounds i true = listed') (h : Lst C ops (Exit.then (NxtP C ops Q hpS fuel listed') (Lax (OnlyP Q))) [o] fr hp) : AnyP C ops Q hpS (fuel + 1) listed fr hp := by
  intro a w ha
  refine wpAnyH_all hr (by simp) ?_
  intro k hk
  simp at hk
  subst hk
  rw [hl]
  exact opp_of_lst hi h ha
theorem anyp_two {o o' : Oper} {l1 l2 : Array Bool} (i j : Nat) (hr : Region.ready .any ops listed = [i, j]) (hi : ops[i]? = some o) (hj : ops[j]? = some o') (hl : listed.setIfInBounds i true = l1) (hl' : listed.setIfInBounds j true = l2)
    (h : Lst C ops (Exit.then (NxtP C ops Q hpS fuel l1) (Lax (OnlyP Q))) [o] fr hp) (h' : Lst C ops (Exit.then (NxtP C ops Q hpS fuel l2) (Lax (OnlyP Q))) [o'] fr hp) : AnyP C ops Q hpS (fuel + 1) listed fr hp := by
  intro a w ha
  refine wpAnyH_all hr (by simp) ?_
  intro k hk
  simp at hk
  rcases hk with rfl | rfl
  · rw [hl]; exact opp_of_lst hi h ha
  · rw [hl']; exact opp_of_lst hj h' ha
theorem anyp_three {o o' o'' : Oper} {l1 l2 l3 : Array Bool} (i j m : Nat) (hr : Region.ready .any ops listed = [i, j, m]) (hi : ops[i]? = some o) (hj : ops[j]? = some o') (hm : ops[m]? = some o'') (hl : listed.setIfInBounds i true = l1) (hl' : listed.setIfInBounds j true = l2) (hl'' : listed.setIfInBounds m true = l3)
    (h : Lst C ops (Exit.then (NxtP C ops Q hpS fuel l1) (Lax (OnlyP Q))) [o] fr hp) (h' : Lst C ops (Exit.then (NxtP C ops Q hpS fuel l2) (Lax (OnlyP Q))) [o'] fr hp) (h'' : Lst C ops (Exit.then (NxtP C ops Q hpS fuel l3) (Lax (OnlyP Q))) [o''] fr hp) : AnyP C ops Q hpS (fuel + 1) listed fr hp := by
  intro a w ha
  refine wpAnyH_all hr (by simp) ?_
  intro k hk
  simp at hk
  rcases hk with rfl | rfl | rfl
  · rw [hl]; exact opp_of_lst hi h ha
  · rw [hl']; exact opp_of_lst hj h' ha
  · rw [hl'']; exact opp_of_lst hm h'' ha
theorem anyp_next (hs : hpS.Sublist hp) (h : AnyP C ops Q hpS fuel listed fr hp) : Ex C (Exit.then (NxtP C ops Q hpS fuel listed) (Lax (OnlyP Q))) .normal fr hp :=
  fun a w ha => ⟨ha.toMem hs, h a w ha⟩
theorem anyp_begin {id : Nat} {l : List Oper} {hpS : List Res} (bs : List Dk) (hm : C.P.follows .mixedOrders = true) (n : Nat) (hn : l.length = n) (lst : List Bool) (hl : Array.replicate n false = lst.toArray) [hs : Drp bs hp hpS] (h : AnyP C l.toArray Q hpS n lst.toArray fr hp) :
    Cod C (.region id l.toArray true) Q fr hp := anyp_start hm n hn lst hl hs.sub h
end
end Go.Proofs.YtofkhehcnfiopaaDoor.N
namespace Go.Proofs.YtofkhehcnfiopaaDoor.N
open Go Go.RowKit Go.Proofs
set_option linter.unusedSectionVars false
variable [I : Sys]

theorem Shortest_bad (A : Option Addr) (c : Nat) (l : List RA) (hn : checkR l ≠ 0) (n0 : Int) (n1 : Int) (w : World) (hA : RdL RA.cells 5 w A l) : Calls Tryd.prog 53 #[.slice A l.length c, .int .i64 n0, .int .i64 n1] w fun e w' => e = .returned (.tuple #[.slice none 0 0, .int .i64 ((checkR l : Nat) : Int)]) ∧ Grew w w' [] := by
  refine enter_defers (N := 24) [(0, .slice A l.length c), (1, .int .i64 n0), (2, .int .i64 n1)] Tryd.func53 rfl Tryd.ntmps53 rfl rfl ?_
  refine cod_seq ?_
  refine cod_region ?_
  refine lst_assign rfl rfl ?_
  refine lst_alloc rfl F.ti35 ?_
  intro b7
  refine lst_nil ?_
  refine ex_then ?_
  refine cod_seq ?_
  refine cod_region ?_
  refine lst_defer (first := []) (cap := []) (vs := [_]) rfl rfl ?_
  refine lst_nil ?_
  refine ex_then ?_
  refine cod_seq ?_
  refine cod_region ?_
  refine lst_move rfl rfl ?_
  refine lst_fn_panics (vs := [_]) rfl F.ent75 (fun a w ha => begin_bad A c l hn w (hA.later ha.below)) ?_
  refine ex_then_panic ?_
  exact ex_panic_caught (fun a w ha => ⟨_, res_tc (fn := Tryd.f53) ha rfl rfl rfl F.one35, rfl, ha.grown sbl⟩)

theorem Shortest_bad0 (A : Option Addr) (c : Nat) (ags : List Ag) (hok : Oks ags) (n0 : Int) (hn0 : inB n0 0 63 = false) (n1 : Int) (w : World) (hA : RdL Ag.cells 5 w A ags) : Calls Tryd.prog 53 #[.slice A ags.length c, .int .i64 n0, .int .i64 n1] w fun e w' => e = .returned (.tuple #[.slice none 0 0, .int .i64 1]) ∧ Grew w w' [] := by
  have hua : usedAll ags.length < 256 := by have := usedAll_lt hok.1; omega
  refine enter_defers (N := 24) [(0, .slice A ags.length c), (1, .int .i64 n0), (2, .int .i64 n1)] Tryd.func53 rfl Tryd.ntmps53 rfl rfl ?_
  refine cod_seq ?_
  refine cod_region ?_
  refine lst_assign rfl rfl ?_
  refine lst_alloc rfl F.ti35 ?_
  intro b7
  refine lst_nil ?_
  refine ex_then ?_
  refine cod_seq ?_
  refine cod_region ?_
  refine lst_defer (first := []) (cap := []) (vs := [_]) rfl rfl ?_
  refine lst_nil ?_
  refine ex_then ?_
  refine cod_seq ?_
  refine cod_region ?_
  refine lst_move rfl rfl ?_
  refine lst_fn (X := Option Addr × Nat) (vs := [_]) (p := fun _ => True) (val := fun x => .agg [.slice x.1 ags.length x.2, .int .u8 (usedAll ags.length : Nat)].toArray) (rs := fun x => [.row 89 5 x.1 ags.length x.2 (ags.flatMap Ag.cells)]) rfl rfl F.ent75 (fun a w ha => (begin_ok A c ags hok w (hA.later ha.below)).mono (fun e w' h => by obtain ⟨A', c', h1, h2⟩ := h; exact ⟨(A', c'), trivial, h1, h2⟩)) ?_
  rintro ⟨aA, cg⟩ -
  dsimp only [List.cons_append, List.nil_append]
  refine lst_alloc rfl F.ti75 ?_
  intro b8
  refine lst_store rfl rfl F.ti75 rfl ?_
  refine lst_nil ?_
  refine ex_then ?_
  refine cod_seq ?_
  refine anyp_begin [] F.follows 11 rfl [false, false, false, false, false, false, false, false, false, false, false] rfl ?_
  refine anyp_three (l3 := [false, false, false, true, false, false, false, false, false, false, false].toArray) 0 1 3 (by kernel_rfl) rfl rfl rfl rfl rfl rfl ?_ ?_ ?_
  · skip
    refine lst_loadN rfl rfl F.agg75 F.ti75 ?_
    refine lst_nil ?_
    refine anyp_next sbl ?_
    refine anyp_two 1 3 (by kernel_rfl) rfl rfl rfl rfl ?_ ?_
    · skip
      refine lst_move rfl rfl ?_
      refine lst_nil ?_
      refine anyp_next sbl ?_
      refine anyp_two 2 3 (by kernel_rfl) rfl rfl rfl rfl ?_ ?_
      · skip
        refine lst_fn_panics (vs := [_]) rfl F.ent76 (fun a w ha => melt_bad n0 hn0 w) ?_
        refine ex_then_panic ?_
        refine ex_only_panic ?_
        refine ex_then_panic ?_
        exact ex_panic_caught (fun a w ha => ⟨_, res_tc (fn := Tryd.f53) ha rfl rfl rfl F.one35, rfl, ha.grown sbl⟩)
      · skip
        refine lst_move rfl rfl ?_
        refine lst_nil ?_
        refine anyp_next sbl ?_
        refine anyp_one 2 (by kernel_rfl) rfl rfl ?_
        refine lst_fn_panics (vs := [_]) rfl F.ent76 (fun a w ha => melt_bad n0 hn0 w) ?_
        refine ex_then_panic ?_
        refine ex_only_panic ?_
        refine ex_then_panic ?_
        exact ex_panic_caught (fun a w ha => ⟨_, res_tc (fn := Tryd.f53) ha rfl rfl rfl F.one35, rfl, ha.grown sbl⟩)
    · skip
      refine lst_move rfl rfl ?_
      refine lst_nil ?_
      refine anyp_next sbl ?_
      refine anyp_one 1 (by kernel_rfl) rfl rfl ?_
      refine lst_move rfl rfl ?_
      refine lst_nil ?_
      refine anyp_next sbl ?_
      refine anyp_one 2 (by kernel_rfl) rfl rfl ?_
      refine lst_fn_panics (vs := [_]) rfl F.ent76 (fun a w ha => melt_bad n0 hn0 w) ?_
      refine ex_then_panic ?_
      refine ex_only_panic ?_
      refine ex_then_panic ?_
      exact ex_panic_caught (fun a w ha => ⟨_, res_tc (fn := Tryd.f53) ha rfl rfl rfl F.one35, rfl, ha.grown sbl⟩)
  · skip
    refine lst_move rfl rfl ?_
    refine lst_nil ?_
    refine anyp_next sbl ?_
    refine anyp_three (l3 := [false, true, false, true, false, false, false, false, false, false, false].toArray) 0 2 3 (by kernel_rfl) rfl rfl rfl rfl rfl rfl ?_ ?_ ?_
    · skip
      refine lst_loadN rfl rfl F.agg75 F.ti75 ?_
      refine lst_nil ?_
      refine anyp_next sbl ?_
      refine anyp_two 2 3 (by kernel_rfl) rfl rfl rfl rfl ?_ ?_
      · skip
        refine lst_fn_panics (vs := [_]) rfl F.ent76 (fun a w ha => melt_bad n0 hn0 w) ?_
        refine ex_then_panic ?_
        refine ex_only_panic ?_
        refine ex_then_panic ?_
        exact ex_panic_caught (fun a w ha => ⟨_, res_tc (fn := Tryd.f53) ha rfl rfl rfl F.one35, rfl, ha.grown sbl⟩)
      · skip
        refine lst_move rfl rfl ?_
        refine lst_nil ?_
        refine anyp_next sbl ?_
        refine anyp_one 2 (by kernel_rfl) rfl rfl ?_
        refine lst_fn_panics (vs := [_]) rfl F.ent76 (fun a w ha => melt_bad n0 hn0 w) ?_
        refine ex_then_panic ?_
        refine ex_only_panic ?_
        refine ex_then_panic ?_
        exact ex_panic_caught (fun a w ha => ⟨_, res_tc (fn := Tryd.f53) ha rfl rfl rfl F.one35, rfl, ha.grown sbl⟩)
    · skip
      refine lst_fn_panics (vs := [_]) rfl F.ent76 (fun a w ha => melt_bad n0 hn0 w) ?_
      refine ex_then_panic ?_
      refine ex_only_panic ?_
      refine ex_then_panic ?_
      exact ex_panic_caught (fun a w ha => ⟨_, res_tc (fn := Tryd.f53) ha rfl rfl rfl F.one35, rfl, ha.grown sbl⟩)
    · skip
      refine lst_move rfl rfl ?_
      refine lst_nil ?_
      refine anyp_next sbl ?_
      refine anyp_two 0 2 (by kernel_rfl) rfl rfl rfl rfl ?_ ?_
      · skip
        refine lst_loadN rfl rfl F.agg75 F.ti75 ?_
        refine lst_nil ?_
        refine anyp_next sbl ?_
        refine anyp_one 2 (by kernel_rfl) rfl rfl ?_
        refine lst_fn_panics (vs := [_]) rfl F.ent76 (fun a w ha => melt_bad n0 hn0 w) ?_
        refine ex_then_panic ?_
        refine ex_only_panic ?_
        refine ex_then_panic ?_
        exact ex_panic_caught (fun a w ha => ⟨_, res_tc (fn := Tryd.f53) ha rfl rfl rfl F.one35, rfl, ha.grown sbl⟩)
      · skip
        refine lst_fn_panics (vs := [_]) rfl F.ent76 (fun a w ha => melt_bad n0 hn0 w) ?_
        refine ex_then_panic ?_
        refine ex_only_panic ?_
        refine ex_then_panic ?_
        exact ex_panic_caught (fun a w ha => ⟨_, res_tc (fn := Tryd.f53) ha rfl rfl rfl F.one35, rfl, ha.grown sbl⟩)
  · skip
    refine lst_move rfl rfl ?_
    refine lst_nil ?_
    refine anyp_next sbl ?_
    refine anyp_two 0 1 (by kernel_rfl) rfl rfl rfl rfl ?_ ?_
    · skip
      refine lst_loadN rfl rfl F.agg75 F.ti75 ?_
      refine lst_nil ?_
      refine anyp_next sbl ?_
      refine anyp_one 1 (by kernel_rfl) rfl rfl ?_
      refine lst_move rfl rfl ?_
      refine lst_nil ?_
      refine anyp_next sbl ?_
      refine anyp_one 2 (by kernel_rfl) rfl rfl ?_
      refine lst_fn_panics (vs := [_]) rfl F.ent76 (fun a w ha => melt_bad n0 hn0 w) ?_
      refine ex_then_panic ?_
      refine ex_only_panic ?_
      refine ex_then_panic ?_
      exact ex_panic_caught (fun a w ha => ⟨_, res_tc (fn := Tryd.f53) ha rfl rfl rfl F.one35, rfl, ha.grown sbl⟩)
    · skip
      refine lst_move rfl rfl ?_
      refine lst_nil ?_
      refine anyp_next sbl ?_
      refine anyp_two 0 2 (by kernel_rfl) rfl rfl rfl rfl ?_ ?_
      · skip
        refine lst_loadN rfl rfl F.agg75 F.ti75 ?_
        refine lst_nil ?_
        refine anyp_next sbl ?_
        refine anyp_one 2 (by kernel_rfl) rfl rfl ?_
        refine lst_fn_panics (vs := [_]) rfl F.ent76 (fun a w ha => melt_bad n0 hn0 w) ?_
        refine ex_then_panic ?_
        refine ex_only_panic ?_
        refine ex_then_panic ?_
        exact ex_panic_caught (fun a w ha => ⟨_, res_tc (fn := Tryd.f53) ha rfl rfl rfl F.one35, rfl, ha.grown sbl⟩)
      · skip
        refine lst_fn_panics (vs := [_]) rfl F.ent76 (fun a w ha => melt_bad n0 hn0 w) ?_
        refine ex_then_panic ?_
        refine ex_only_panic ?_
        refine ex_then_panic ?_
        exact ex_panic_caught (fun a w ha => ⟨_, res_tc (fn := Tryd.f53) ha rfl rfl rfl F.one35, rfl, ha.grown sbl⟩)

theorem Shortest_bad1 (A : Option Addr) (c : Nat) (ags : List Ag) (hok : Oks ags) (n0 : Nat) (hn0 : n0 < 64) (n1 : Int) (hn1 : inB n1 0 63 = false) (w : World) (hA : RdL Ag.cells 5 w A ags) : Calls Tryd.prog 53 #[.slice A ags.length c, .int .i64 (n0 : Int), .int .i64 n1] w fun e w' => e = .returned (.tuple #[.slice none 0 0, .int .i64 1]) ∧ Grew w w' [] := by
  have hua : usedAll ags.length < 256 := by have := usedAll_lt hok.1; omega
  refine enter_defers (N := 24) [(0, .slice A ags.length c), (1, .int .i64 (n0 : Int)), (2, .int .i64 n1)] Tryd.func53 rfl Tryd.ntmps53 rfl rfl ?_
  refine cod_seq ?_
  refine cod_region ?_
  refine lst_assign rfl rfl ?_
  refine lst_alloc rfl F.ti35 ?_
  intro b7
  refine lst_nil ?_
  refine ex_then ?_
  refine cod_seq ?_
  refine cod_region ?_
  refine lst_defer (first := []) (cap := []) (vs := [_]) rfl rfl ?_
  refine lst_nil ?_
  refine ex_then ?_
  refine cod_seq ?_
  refine cod_region ?_
  refine lst_move rfl rfl ?_
  refine lst_fn (X := Option Addr × Nat) (vs := [_]) (p := fun _ => True) (val := fun x => .agg [.slice x.1 ags.length x.2, .int .u8 (usedAll ags.length : Nat)].toArray) (rs := fun x => [.row 89 5 x.1 ags.length x.2 (ags.flatMap Ag.cells)]) rfl rfl F.ent75 (fun a w ha => (begin_ok A c ags hok w (hA.later ha.below)).mono (fun e w' h => by obtain ⟨A', c', h1, h2⟩ := h; exact ⟨(A', c'), trivial, h1, h2⟩)) ?_
  rintro ⟨aA, cg⟩ -
  dsimp only [List.cons_append, List.nil_append]
  refine lst_alloc rfl F.ti75 ?_
  intro b8
  refine lst_store rfl rfl F.ti75 rfl ?_
  refine lst_nil ?_
  refine ex_then ?_
  refine cod_seq ?_
  refine anyp_begin [] F.follows 11 rfl [false, false, false, false, false, false, false, false, false, false, false] rfl ?_
  refine anyp_three (l3 := [false, false, false, true, false, false, false, false, false, false, false].toArray) 0 1 3 (by kernel_rfl) rfl rfl rfl rfl rfl rfl ?_ ?_ ?_
  · skip
    refine lst_loadN rfl rfl F.agg75 F.ti75 ?_
    refine lst_nil ?_
    refine anyp_next sbl ?_
    refine anyp_two 1 3 (by kernel_rfl) rfl rfl rfl rfl ?_ ?_
    · skip
      refine lst_move rfl rfl ?_
      refine lst_nil ?_
      refine anyp_next sbl ?_
      refine anyp_two 2 3 (by kernel_rfl) rfl rfl rfl rfl ?_ ?_
      · skip
        refine lst_fn0 (vs := [_]) rfl rfl F.ent76 (fun a w ha => melt_ok n0 hn0 w) ?_
        refine lst_nil ?_
        refine anyp_next sbl ?_
        refine anyp_one 3 (by kernel_rfl) rfl rfl ?_
        refine lst_move rfl rfl ?_
        refine lst_nil ?_
        refine anyp_next sbl ?_
        refine anyp_one 4 (by kernel_rfl) rfl rfl ?_
        refine lst_fn_panics (vs := [_]) rfl F.ent76 (fun a w ha => melt_bad n1 hn1 w) ?_
        refine ex_then_panic ?_
        refine ex_only_panic ?_
        refine ex_then_panic ?_
        exact ex_panic_caught (fun a w ha => ⟨_, res_tc (fn := Tryd.f53) ha rfl rfl rfl F.one35, rfl, ha.grown sbl⟩)
      · skip
        refine lst_move rfl rfl ?_
        refine lst_nil ?_
        refine anyp_next sbl ?_
        refine anyp_one 2 (by kernel_rfl) rfl rfl ?_
        refine lst_fn0 (vs := [_]) rfl rfl F.ent76 (fun a w ha => melt_ok n0 hn0 w) ?_
        refine lst_nil ?_
        refine anyp_next sbl ?_
        refine anyp_one 4 (by kernel_rfl) rfl rfl ?_
        refine lst_fn_panics (vs := [_]) rfl F.ent76 (fun a w ha => melt_bad n1 hn1 w) ?_
        refine ex_then_panic ?_
        refine ex_only_panic ?_
        refine ex_then_panic ?_
        exact ex_panic_caught (fun a w ha => ⟨_, res_tc (fn := Tryd.f53) ha rfl rfl rfl F.one35, rfl, ha.grown sbl⟩)
    · skip
      refine lst_move rfl rfl ?_
      refine lst_nil ?_
      refine anyp_next sbl ?_
      refine anyp_one 1 (by kernel_rfl) rfl rfl ?_
      refine lst_move rfl rfl ?_
      refine lst_nil ?_
      refine anyp_next sbl ?_
      refine anyp_one 2 (by kernel_rfl) rfl rfl ?_
      refine lst_fn0 (vs := [_]) rfl rfl F.ent76 (fun a w ha => melt_ok n0 hn0 w) ?_
      refine lst_nil ?_
      refine anyp_next sbl ?_
      refine anyp_one 4 (by kernel_rfl) rfl rfl ?_
      refine lst_fn_panics (vs := [_]) rfl F.ent76 (fun a w ha => melt_bad n1 hn1 w) ?_
      refine ex_then_panic ?_
      refine ex_only_panic ?_
      refine ex_then_panic ?_
      exact ex_panic_caught (fun a w ha => ⟨_, res_tc (fn := Tryd.f53) ha rfl rfl rfl F.one35, rfl, ha.grown sbl⟩)
  · skip
    refine lst_move rfl rfl ?_
    refine lst_nil ?_
    refine anyp_next sbl ?_
    refine anyp_three (l3 := [false, true, false, true, false, false, false, false, false, false, false].toArray) 0 2 3 (by kernel_rfl) rfl rfl rfl rfl rfl rfl ?_ ?_ ?_
    · skip
      refine lst_loadN rfl rfl F.agg75 F.ti75 ?_
      refine lst_nil ?_
      refine anyp_next sbl ?_
      refine anyp_two 2 3 (by kernel_rfl) rfl rfl rfl rfl ?_ ?_
      · skip
        refine lst_fn0 (vs := [_]) rfl rfl F.ent76 (fun a w ha => melt_ok n0 hn0 w) ?_
        refine lst_nil ?_
        refine anyp_next sbl ?_
        refine anyp_one 3 (by kernel_rfl) rfl rfl ?_
        refine lst_move rfl rfl ?_
        refine lst_nil ?_
        refine anyp_next sbl ?_
        refine anyp_one 4 (by kernel_rfl) rfl rfl ?_
        refine lst_fn_panics (vs := [_]) rfl F.ent76 (fun a w ha => melt_bad n1 hn1 w) ?_
        refine ex_then_panic ?_
        refine ex_only_panic ?_
        refine ex_then_panic ?_
        exact ex_panic_caught (fun a w ha => ⟨_, res_tc (fn := Tryd.f53) ha rfl rfl rfl F.one35, rfl, ha.grown sbl⟩)
      · skip
        refine lst_move rfl rfl ?_
        refine lst_nil ?_
        refine anyp_next sbl ?_
        refine anyp_one 2 (by kernel_rfl) rfl rfl ?_
        refine lst_fn0 (vs := [_]) rfl rfl F.ent76 (fun a w ha => melt_ok n0 hn0 w) ?_
        refine lst_nil ?_
        refine anyp_next sbl ?_
        refine anyp_one 4 (by kernel_rfl) rfl rfl ?_
        refine lst_fn_panics (vs := [_]) rfl F.ent76 (fun a w ha => melt_bad n1 hn1 w) ?_
        refine ex_then_panic ?_
        refine ex_only_panic ?_
        refine ex_then_panic ?_
        exact ex_panic_caught (fun a w ha => ⟨_, res_tc (fn := Tryd.f53) ha rfl rfl rfl F.one35, rfl, ha.grown sbl⟩)
    · skip
      refine lst_fn0 (vs := [_]) rfl rfl F.ent76 (fun a w ha => melt_ok n0 hn0 w) ?_
      refine lst_nil ?_
      refine anyp_next sbl ?_
      refine anyp_two 0 3 (by kernel_rfl) rfl rfl rfl rfl ?_ ?_
      · skip
        refine lst_loadN rfl rfl F.agg75 F.ti75 ?_
        refine lst_nil ?_
        refine anyp_next sbl ?_
        refine anyp_one 3 (by kernel_rfl) rfl rfl ?_
        refine lst_move rfl rfl ?_
        refine lst_nil ?_
        refine anyp_next sbl ?_
        refine anyp_one 4 (by kernel_rfl) rfl rfl ?_
        refine lst_fn_panics (vs := [_]) rfl F.ent76 (fun a w ha => melt_bad n1 hn1 w) ?_
        refine ex_then_panic ?_
        refine ex_only_panic ?_
        refine ex_then_panic ?_
        exact ex_panic_caught (fun a w ha => ⟨_, res_tc (fn := Tryd.f53) ha rfl rfl rfl F.one35, rfl, ha.grown sbl⟩)
      · skip
        refine lst_move rfl rfl ?_
        refine lst_nil ?_
        refine anyp_next sbl ?_
        refine anyp_two 0 4 (by kernel_rfl) rfl rfl rfl rfl ?_ ?_
        · skip
          refine lst_loadN rfl rfl F.agg75 F.ti75 ?_
          refine lst_nil ?_
          refine anyp_next sbl ?_
          refine anyp_one 4 (by kernel_rfl) rfl rfl ?_
          refine lst_fn_panics (vs := [_]) rfl F.ent76 (fun a w ha => melt_bad n1 hn1 w) ?_
          refine ex_then_panic ?_
          refine ex_only_panic ?_
          refine ex_then_panic ?_
          exact ex_panic_caught (fun a w ha => ⟨_, res_tc (fn := Tryd.f53) ha rfl rfl rfl F.one35, rfl, ha.grown sbl⟩)
        · skip
          refine lst_fn_panics (vs := [_]) rfl F.ent76 (fun a w ha => melt_bad n1 hn1 w) ?_
          refine ex_then_panic ?_
          refine ex_only_panic ?_
          refine ex_then_panic ?_
          exact ex_panic_caught (fun a w ha => ⟨_, res_tc (fn := Tryd.f53) ha rfl rfl rfl F.one35, rfl, ha.grown sbl⟩)
    · skip
      refine lst_move rfl rfl ?_
      refine lst_nil ?_
      refine anyp_next sbl ?_
      refine anyp_two 0 2 (by kernel_rfl) rfl rfl rfl rfl ?_ ?_
      · skip
        refine lst_loadN rfl rfl F.agg75 F.ti75 ?_
        refine lst_nil ?_
        refine anyp_next sbl ?_
        refine anyp_one 2 (by kernel_rfl) rfl rfl ?_
        refine lst_fn0 (vs := [_]) rfl rfl F.ent76 (fun a w ha => melt_ok n0 hn0 w) ?_
        refine lst_nil ?_
        refine anyp_next sbl ?_
        refine anyp_one 4 (by kernel_rfl) rfl rfl ?_
        refine lst_fn_panics (vs := [_]) rfl F.ent76 (fun a w ha => melt_bad n1 hn1 w) ?_
        refine ex_then_panic ?_
        refine ex_only_panic ?_
        refine ex_then_panic ?_
        exact ex_panic_caught (fun a w ha => ⟨_, res_tc (fn := Tryd.f53) ha rfl rfl rfl F.one35, rfl, ha.grown sbl⟩)
      · skip
        refine lst_fn0 (vs := [_]) rfl rfl F.ent76 (fun a w ha => melt_ok n0 hn0 w) ?_
        refine lst_nil ?_
        refine anyp_next sbl ?_
        refine anyp_two 0 4 (by kernel_rfl) rfl rfl rfl rfl ?_ ?_
        · skip
          refine lst_loadN rfl rfl F.agg75 F.ti75 ?_
          refine lst_nil ?_
          refine anyp_next sbl ?_
          refine anyp_one 4 (by kernel_rfl) rfl rfl ?_
          refine lst_fn_panics (vs := [_]) rfl F.ent76 (fun a w ha => melt_bad n1 hn1 w) ?_
          refine ex_then_panic ?_
          refine ex_only_panic ?_
          refine ex_then_panic ?_
          exact ex_panic_caught (fun a w ha => ⟨_, res_tc (fn := Tryd.f53) ha rfl rfl rfl F.one35, rfl, ha.grown sbl⟩)
        · skip
          refine lst_fn_panics (vs := [_]) rfl F.ent76 (fun a w ha => melt_bad n1 hn1 w) ?_
          refine ex_then_panic ?_
          refine ex_only_panic ?_
          refine ex_then_panic ?_
          exact ex_panic_caught (fun a w ha => ⟨_, res_tc (fn := Tryd.f53) ha rfl rfl rfl F.one35, rfl, ha.grown sbl⟩)
  · skip
    refine lst_move rfl rfl ?_
    refine lst_nil ?_
    refine anyp_next sbl ?_
    refine anyp_two 0 1 (by kernel_rfl) rfl rfl rfl rfl ?_ ?_
    · skip
      refine lst_loadN rfl rfl F.agg75 F.ti75 ?_
      refine lst_nil ?_
      refine anyp_next sbl ?_
      refine anyp_one 1 (by kernel_rfl) rfl rfl ?_
      refine lst_move rfl rfl ?_
      refine lst_nil ?_
      refine anyp_next sbl ?_
      refine anyp_one 2 (by kernel_rfl) rfl rfl ?_
      refine lst_fn0 (vs := [_]) rfl rfl F.ent76 (fun a w ha => melt_ok n0 hn0 w) ?_
      refine lst_nil ?_
      refine anyp_next sbl ?_
      refine anyp_one 4 (by kernel_rfl) rfl rfl ?_
      refine lst_fn_panics (vs := [_]) rfl F.ent76 (fun a w ha => melt_bad n1 hn1 w) ?_
      refine ex_then_panic ?_
      refine ex_only_panic ?_
      refine ex_then_panic ?_
      exact ex_panic_caught (fun a w ha => ⟨_, res_tc (fn := Tryd.f53) ha rfl rfl rfl F.one35, rfl, ha.grown sbl⟩)
    · skip
      refine lst_move rfl rfl ?_
      refine lst_nil ?_
      refine anyp_next sbl ?_
      refine anyp_two 0 2 (by kernel_rfl) rfl rfl rfl rfl ?_ ?_
      · skip
        refine lst_loadN rfl rfl F.agg75 F.ti75 ?_
        refine lst_nil ?_
        refine anyp_next sbl ?_
        refine anyp_one 2 (by kernel_rfl) rfl rfl ?_
        refine lst_fn0 (vs := [_]) rfl rfl F.ent76 (fun a w ha => melt_ok n0 hn0 w) ?_
        refine lst_nil ?_
        refine anyp_next sbl ?_
        refine anyp_one 4 (by kernel_rfl) rfl rfl ?_
        refine lst_fn_panics (vs := [_]) rfl F.ent76 (fun a w ha => melt_bad n1 hn1 w) ?_
        refine ex_then_panic ?_
        refine ex_only_panic ?_
        refine ex_then_panic ?_
        exact ex_panic_caught (fun a w ha => ⟨_, res_tc (fn := Tryd.f53) ha rfl rfl rfl F.one35, rfl, ha.grown sbl⟩)
      · skip
        refine lst_fn0 (vs := [_]) rfl rfl F.ent76 (fun a w ha => melt_ok n0 hn0 w) ?_
        refine lst_nil ?_
        refine anyp_next sbl ?_
        refine anyp_two 0 4 (by kernel_rfl) rfl rfl rfl rfl ?_ ?_
        · skip
          refine lst_loadN rfl rfl F.agg75 F.ti75 ?_
          refine lst_nil ?_
          refine anyp_next sbl ?_
          refine anyp_one 4 (by kernel_rfl) rfl rfl ?_
          refine lst_fn_panics (vs := [_]) rfl F.ent76 (fun a w ha => melt_bad n1 hn1 w) ?_
          refine ex_then_panic ?_
          refine ex_only_panic ?_
          refine ex_then_panic ?_
          exact ex_panic_caught (fun a w ha => ⟨_, res_tc (fn := Tryd.f53) ha rfl rfl rfl F.one35, rfl, ha.grown sbl⟩)
        · skip
          refine lst_fn_panics (vs := [_]) rfl F.ent76 (fun a w ha => melt_bad n1 hn1 w) ?_
          refine ex_then_panic ?_
          refine ex_only_panic ?_
          refine ex_then_panic ?_
          exact ex_panic_caught (fun a w ha => ⟨_, res_tc (fn := Tryd.f53) ha rfl rfl rfl F.one35, rfl, ha.grown sbl⟩)

theorem Cheapest_bad (A : Option Addr) (c : Nat) (l : List RA) (hn : checkR l ≠ 0) (n0 : Int) (n1 : Int) (w : World) (hA : RdL RA.cells 5 w A l) : Calls Tryd.prog 35 #[.slice A l.length c, .int .i64 n0, .int .i64 n1] w fun e w' => e = .returned (.tuple #[.slice none 0 0, .int .i64 0, .int .i64 ((checkR l : Nat) : Int)]) ∧ Grew w w' [] := by
  refine enter_defers (N := 84) [(0, .slice A l.length c), (1, .int .i64 n0), (2, .int .i64 n1)] Tryd.func35 rfl Tryd.ntmps35 rfl rfl ?_
  refine cod_seq ?_
  refine cod_region ?_
  refine lst_assign rfl rfl ?_
  refine lst_assign rfl rfl ?_
  refine lst_alloc rfl F.ti35 ?_
  intro b8
  refine lst_nil ?_
  refine ex_then ?_
  refine cod_seq ?_
  refine cod_region ?_
  refine lst_defer (first := []) (cap := []) (vs := [_]) rfl rfl ?_
  refine lst_nil ?_
  refine ex_then ?_
  refine cod_seq ?_
  refine cod_region ?_
  refine lst_move rfl rfl ?_
  refine lst_fn_panics (vs := [_]) rfl F.ent75 (fun a w ha => begin_bad A c l hn w (hA.later ha.below)) ?_
  refine ex_then_panic ?_
  exact ex_panic_caught (fun a w ha => ⟨_, res_ttc (fn := Tryd.f35) ha rfl rfl rfl rfl F.one35, rfl, ha.grown sbl⟩)

theorem Cheapest_bad0 (A : Option Addr) (c : Nat) (ags : List Ag) (hok : Oks ags) (n0 : Int) (hn0 : inB n0 0 63 = false) (n1 : Int) (w : World) (hA : RdL Ag.cells 5 w A ags) : Calls Tryd.prog 35 #[.slice A ags.length c, .int .i64 n0, .int .i64 n1] w fun e w' => e = .returned (.tuple #[.slice none 0 0, .int .i64 0, .int .i64 1]) ∧ Grew w w' [] := by
  have hua : usedAll ags.length < 256 := by have := usedAll_lt hok.1; omega
  refine enter_defers (N := 84) [(0, .slice A ags.length c), (1, .int .i64 n0), (2, .int .i64 n1)] Tryd.func35 rfl Tryd.ntmps35 rfl rfl ?_
  refine cod_seq ?_
  refine cod_region ?_
  refine lst_assign rfl rfl ?_
  refine lst_assign rfl rfl ?_
  refine lst_alloc rfl F.ti35 ?_
  intro b8
  refine lst_nil ?_
  refine ex_then ?_
  refine cod_seq ?_
  refine cod_region ?_
  refine lst_defer (first := []) (cap := []) (vs := [_]) rfl rfl ?_
  refine lst_nil ?_
  refine ex_then ?_
  refine cod_seq ?_
  refine cod_region ?_
  refine lst_move rfl rfl ?_
  refine lst_fn (X := Option Addr × Nat) (vs := [_]) (p := fun _ => True) (val := fun x => .agg [.slice x.1 ags.length x.2, .int .u8 (usedAll ags.length : Nat)].toArray) (rs := fun x => [.row 89 5 x.1 ags.length x.2 (ags.flatMap Ag.cells)]) rfl rfl F.ent75 (fun a w ha => (begin_ok A c ags hok w (hA.later ha.below)).mono (fun e w' h => by obtain ⟨A', c', h1, h2⟩ := h; exact ⟨(A', c'), trivial, h1, h2⟩)) ?_
  rintro ⟨aA, cg⟩ -
  dsimp only [List.cons_append, List.nil_append]
  refine lst_alloc rfl F.ti75 ?_
  intro b9
  refine lst_store rfl rfl F.ti75 rfl ?_
  refine lst_nil ?_
  refine ex_then ?_
  refine cod_seq ?_
  refine cod_region ?_
  refine lst_move rfl rfl ?_
  refine lst_fn_panics (vs := [_]) rfl F.ent76 (fun a w ha => melt_bad n0 hn0 w) ?_
  refine ex_then_panic ?_
  exact ex_panic_caught (fun a w ha => ⟨_, res_ttc (fn := Tryd.f35) ha rfl rfl rfl rfl F.one35, rfl, ha.grown sbl⟩)

theorem Cheapest_bad1 (A : Option Addr) (c : Nat) (ags : List Ag) (hok : Oks ags) (n0 : Nat) (hn0 : n0 < 64) (n1 : Int) (hn1 : inB n1 0 63 = false) (w : World) (hA : RdL Ag.cells 5 w A ags) : Calls Tryd.prog 35 #[.slice A ags.length c, .int .i64 (n0 : Int), .int .i64 n1] w fun e w' => e = .returned (.tuple #[.slice none 0 0, .int .i64 0, .int .i64 1]) ∧ Grew w w' [] := by
  have hua : usedAll ags.length < 256 := by have := usedAll_lt hok.1; omega
  refine enter_defers (N := 84) [(0, .slice A ags.length c), (1, .int .i64 (n0 : Int)), (2, .int .i64 n1)] Tryd.func35 rfl Tryd.ntmps35 rfl rfl ?_
  refine cod_seq ?_
  refine cod_region ?_
  refine lst_assign rfl rfl ?_
  refine lst_assign rfl rfl ?_
  refine lst_alloc rfl F.ti35 ?_
  intro b8
  refine lst_nil ?_
  refine ex_then ?_
  refine cod_seq ?_
  refine cod_region ?_
  refine lst_defer (first := []) (cap := []) (vs := [_]) rfl rfl ?_
  refine lst_nil ?_
  refine ex_then ?_
  refine cod_seq ?_
  refine cod_region ?_
  refine lst_move rfl rfl ?_
  refine lst_fn (X := Option Addr × Nat) (vs := [_]) (p := fun _ => True) (val := fun x => .agg [.slice x.1 ags.length x.2, .int .u8 (usedAll ags.length : Nat)].toArray) (rs := fun x => [.row 89 5 x.1 ags.length x.2 (ags.flatMap Ag.cells)]) rfl rfl F.ent75 (fun a w ha => (begin_ok A c ags hok w (hA.later ha.below)).mono (fun e w' h => by obtain ⟨A', c', h1, h2⟩ := h; exact ⟨(A', c'), trivial, h1, h2⟩)) ?_
  rintro ⟨aA, cg⟩ -
  dsimp only [List.cons_append, List.nil_append]
  refine lst_alloc rfl F.ti75 ?_
  intro b9
  refine lst_store rfl rfl F.ti75 rfl ?_
  refine lst_nil ?_
  refine ex_then ?_
  refine cod_seq ?_
  refine cod_region ?_
  refine lst_move rfl rfl ?_
  refine lst_fn0 (vs := [_]) rfl rfl F.ent76 (fun a w ha => melt_ok n0 hn0 w) ?_
  refine lst_move rfl rfl ?_
  refine lst_fn_panics (vs := [_]) rfl F.ent76 (fun a w ha => melt_bad n1 hn1 w) ?_
  refine ex_then_panic ?_
  exact ex_panic_caught (fun a w ha => ⟨_, res_ttc (fn := Tryd.f35) ha rfl rfl rfl rfl F.one35, rfl, ha.grown sbl⟩)

theorem Reach_bad (A : Option Addr) (c : Nat) (l : List RA) (hn : checkR l ≠ 0) (n0 : Int) (w : World) (hA : RdL RA.cells 5 w A l) : Calls Tryd.prog 59 #[.slice A l.length c, .int .i64 n0] w fun e w' => e = .returned (.tuple #[.slice none 0 0, .int .i64 ((checkR l : Nat) : Int)]) ∧ Grew w w' [] := by
  refine enter_defers (N := 14) [(0, .slice A l.length c), (1, .int .i64 n0)] Tryd.func59 rfl Tryd.ntmps59 rfl rfl ?_
  refine cod_seq ?_
  refine cod_region ?_
  refine lst_assign rfl rfl ?_
  refine lst_alloc rfl F.ti35 ?_
  intro b5
  refine lst_nil ?_
  refine ex_then ?_
  refine cod_seq ?_
  refine cod_region ?_
  refine lst_defer (first := []) (cap := []) (vs := [_]) rfl rfl ?_
  refine lst_nil ?_
  refine ex_then ?_
  refine cod_seq ?_
  refine cod_region ?_
  refine lst_move rfl rfl ?_
  refine lst_fn_panics (vs := [_]) rfl F.ent75 (fun a w ha => begin_bad A c l hn w (hA.later ha.below)) ?_
  refine ex_then_panic ?_
  exact ex_panic_caught (fun a w ha => ⟨_, res_tc (fn := Tryd.f59) ha rfl rfl rfl F.one35, rfl, ha.grown sbl⟩)

theorem Reach_bad0 (A : Option Addr) (c : Nat) (ags : List Ag) (hok : Oks ags) (n0 : Int) (hn0 : inB n0 0 63 = false) (w : World) (hA : RdL Ag.cells 5 w A ags) : Calls Tryd.prog 59 #[.slice A ags.length c, .int .i64 n0] w fun e w' => e = .returned (.tuple #[.slice none 0 0, .int .i64 1]) ∧ Grew w w' [] := by
  have hua : usedAll ags.length < 256 := by have := usedAll_lt hok.1; omega
  refine enter_defers (N := 14) [(0, .slice A ags.length c), (1, .int .i64 n0)] Tryd.func59 rfl Tryd.ntmps59 rfl rfl ?_
  refine cod_seq ?_
  refine cod_region ?_
  refine lst_assign rfl rfl ?_
  refine lst_alloc rfl F.ti35 ?_
  intro b5
  refine lst_nil ?_
  refine ex_then ?_
  refine cod_seq ?_
  refine cod_region ?_
  refine lst_defer (first := []) (cap := []) (vs := [_]) rfl rfl ?_
  refine lst_nil ?_
  refine ex_then ?_
  refine cod_seq ?_
  refine cod_region ?_
  refine lst_move rfl rfl ?_
  refine lst_fn (X := Option Addr × Nat) (vs := [_]) (p := fun _ => True) (val := fun x => .agg [.slice x.1 ags.length x.2, .int .u8 (usedAll ags.length : Nat)].toArray) (rs := fun x => [.row 89 5 x.1 ags.length x.2 (ags.flatMap Ag.cells)]) rfl rfl F.ent75 (fun a w ha => (begin_ok A c ags hok w (hA.later ha.below)).mono (fun e w' h => by obtain ⟨A', c', h1, h2⟩ := h; exact ⟨(A', c'), trivial, h1, h2⟩)) ?_
  rintro ⟨aA, cg⟩ -
  dsimp only [List.cons_append, List.nil_append]
  refine lst_alloc rfl F.ti75 ?_
  intro b6
  refine lst_store rfl rfl F.ti75 rfl ?_
  refine lst_nil ?_
  refine ex_then ?_
  refine cod_seq ?_
  refine anyp_begin [.b b5] F.follows 7 rfl [false, false, false, false, false, false, false] rfl ?_
  refine anyp_two 0 1 (by kernel_rfl) rfl rfl rfl rfl ?_ ?_
  · skip
    refine lst_loadN rfl rfl F.agg75 F.ti75 ?_
    refine lst_nil ?_
    refine anyp_next sbl ?_
    refine anyp_one 1 (by kernel_rfl) rfl rfl ?_
    refine lst_move rfl rfl ?_
    refine lst_nil ?_
    refine anyp_next sbl ?_
    refine anyp_one 2 (by kernel_rfl) rfl rfl ?_
    refine lst_fn_panics (vs := [_]) rfl F.ent76 (fun a w ha => melt_bad n0 hn0 w) ?_
    refine ex_then_panic ?_
    refine ex_only_panic ?_
    refine ex_then_panic ?_
    exact ex_panic_caught (fun a w ha => ⟨_, res_tc (fn := Tryd.f59) ha rfl rfl rfl F.one35, rfl, ha.grown sbl⟩)
  · skip
    refine lst_move rfl rfl ?_
    refine lst_nil ?_
    refine anyp_next sbl ?_
    refine anyp_two 0 2 (by kernel_rfl) rfl rfl rfl rfl ?_ ?_
    · skip
      refine lst_loadN rfl rfl F.agg75 F.ti75 ?_
      refine lst_nil ?_
      refine anyp_next sbl ?_
      refine anyp_one 2 (by kernel_rfl) rfl rfl ?_
      refine lst_fn_panics (vs := [_]) rfl F.ent76 (fun a w ha => melt_bad n0 hn0 w) ?_
      refine ex_then_panic ?_
      refine ex_only_panic ?_
      refine ex_then_panic ?_
      exact ex_panic_caught (fun a w ha => ⟨_, res_tc (fn := Tryd.f59) ha rfl rfl rfl F.one35, rfl, ha.grown sbl⟩)
    · skip
      refine lst_fn_panics (vs := [_]) rfl F.ent76 (fun a w ha => melt_bad n0 hn0 w) ?_
      refine ex_then_panic ?_
      refine ex_only_panic ?_
      refine ex_then_panic ?_
      exact ex_panic_caught (fun a w ha => ⟨_, res_tc (fn := Tryd.f59) ha rfl rfl rfl F.one35, rfl, ha.grown sbl⟩)

end Go.Proofs.YtofkhehcnfiopaaDoor.N
namespace Go.Proofs.YtofkhehcnfiopaaDoor.N
open Go Go.RowKit Go.Proofs
set_option linter.unusedSectionVars false
variable [I : Sys]
/-- The agents that some numbers are. -/
def agsOf (l : List RA) : List Ag := l.map RA.ag
theorem agsOf_len (l : List RA) : (agsOf l).length = l.length := List.length_map ..
end Go.Proofs.YtofkhehcnfiopaaDoor.N
namespace Go.Proofs.YtofkhehcnfiopaaDoor.N
open Go Go.RowKit Go.Proofs
set_option linter.unusedSectionVars false
variable [I : Sys]
/-! What is asked of whatever agents: the program and the reference answer alike. -/
theorem askedR_zero {l : List RA} {m p : Int} (h : askedR l m p = 0) : checkR l = 0 ∧ inB m 0 63 = true ∧ inB p 0 63 = true := by
  unfold askedR at h
  by_cases hc : checkR l = 0
  · rw [if_neg (by simpa using hc)] at h
    refine ⟨hc, ?_⟩
    by_cases hb : (inB m 0 63 && inB p 0 63) = true
    · simpa using hb
    · rw [if_neg hb] at h; cases h
  · rw [if_pos hc] at h; exact absurd h hc
theorem askedR_check {l : List RA} {m p : Int} (h : checkR l ≠ 0) : askedR l m p = checkR l := by
  unfold askedR
  rw [if_pos h]
theorem askedR_one {l : List RA} {m p : Int} (h : checkR l = 0) (hb : inB m 0 63 = false ∨ inB p 0 63 = false) : askedR l m p = 1 := by
  unfold askedR
  rw [if_neg (by simpa using h), if_neg]
  intro hx
  rw [Bool.and_eq_true] at hx
  rcases hb with e | e
  · rw [e] at hx; cases hx.1
  · rw [e] at hx; cases hx.2
theorem nat_of_inB {m : Int} (h : inB m 0 63 = true) : ∃ f : Nat, m = (f : Int) ∧ f < 64 := by
  rw [inB_true] at h
  exact ⟨m.toNat, by omega, by omega⟩
theorem in0 : inB 0 0 63 = true := by decide
theorem grew_nil {w w' : World} (h : Grew w w' []) : Grew w w' [.row 3 1 none ([] : List Nat).length 0 (ints [])] :=
  ⟨h.1, fun r hr => by simp at hr; subst hr; exact ⟨rfl, .inl ⟨rfl, rfl⟩⟩, List.nodup_nil⟩
def Says (w : World) (L : List Nat) (E : Nat) (e : Ending) (w' : World) : Prop := ∃ (A' : Option Addr) (c' : Nat), e = .returned (.tuple #[.slice A' L.length c', .int .i64 (E : Int)]) ∧ Grew w w' [.row 3 1 A' L.length c' (ints L)]
theorem Says.nil {w w' : World} {E : Nat} {e : Ending} (h : e = .returned (.tuple #[.slice none 0 0, .int .i64 (E : Int)]) ∧ Grew w w' []) : Says w [] E e w' := ⟨none, 0, h.1, grew_nil h.2⟩
/-- What Put answers. -/
def putR (l : List RA) (m : Int) (way : List Int) : List Nat × Nat :=
  if askedR l m 0 = 0 then (if 20 < way.length then ([], 6) else match alongE (agsOf l) m.toNat way with | .ok o => (o, 0) | .error c => ([], c)) else ([], askedR l m 0)
theorem PutS.is {l : List RA} {f E : Nat} {way : List Int} {outs : List Nat} (h0 : askedR l (f : Int) 0 = 0) (h : PutS (agsOf l) f way outs E) : putR l (f : Int) way = (outs, E) := by
  unfold putR
  rw [if_pos h0, Int.toNat_natCast]
  rcases h with ⟨h1, h2, h3, _⟩ | ⟨h1, h2, _, h4⟩ | ⟨h1, h2, h3⟩
  · rw [if_neg (by omega), h2, h3]
  · rw [if_neg (by omega), h2, h4]
  · rw [if_pos h1, h2, h3]
end Go.Proofs.YtofkhehcnfiopaaDoor.N
namespace Go.Proofs.YtofkhehcnfiopaaDoor.N
open Go Go.RowKit Go.Proofs
set_option linter.unusedSectionVars false
variable [I : Sys]
/-- A number of 64 bits. -/
def W64 (n : Int) : Prop := -9223372036854775808 ≤ n ∧ n ≤ 9223372036854775807
structure RA.wf (a : RA) : Prop where
  needs : W64 a.needs
  no : W64 a.no
  takes : W64 a.takes
  leaves : W64 a.leaves
  cost : W64 a.cost
def rv24 (a : RA) : Value := .agg a.cells.toArray
def ralits (a : RA) : List Go.Lit := [.int .i64 a.needs, .int .i64 a.no, .int .i64 a.takes, .int .i64 a.leaves, .int .i64 a.cost]
theorem kt24 : Tryd.prog.keyType 24 = true := by kernel_rfl
theorem co24 : Tryd.prog.cellsOf 24 = 5 := by kernel_rfl
theorem w64wf {n : Int} (h : W64 n) : (Go.Lit.int .i64 n).wf = true := by
  unfold W64 at h
  simp [Go.Lit.wf, IntKind.min, IntKind.max, IntKind.signed, IntKind.bits]
  omega
theorem keyLits_w64 {n : Int} (h : W64 n) (d : Nat) : Tryd.prog.keyLits (d + 1) 3 [.int .i64 n] = some [.int .i64 n] := by
  unfold Program.keyLits
  rw [Tryd.underlying3]
  simp [w64wf h]
theorem keyLits_ra {a : RA} (h : a.wf) (d : Nat) : Tryd.prog.keyLits (d + 1 + 1) 24 a.cells = some (ralits a) := by
  obtain ⟨h1, h2, h3, h4, h5⟩ := h
  conv => lhs; unfold Program.keyLits
  rw [Tryd.underlying24]
  simp [co24, co3, RA.cells, ralits, keyLits_w64 h1, keyLits_w64 h2, keyLits_w64 h3, keyLits_w64 h4, keyLits_w64 h5]
theorem keyOf_ra {a : RA} (h : a.wf) : keyOf Tryd.prog 24 (rv24 a) = some (.string (keyBytes (ralits a))) := by
  unfold keyOf
  rw [Tryd.underlying24]
  simp only [kt24, Bool.true_and]
  have hf : (rv24 a).formed Tryd.prog 24 = true := by
    simp [Value.formed, rv24, Tryd.underlying24, co24, RA.cells]
  rw [if_pos hf, tsz]
  have : (rv24 a).cells.toList = a.cells := rfl
  rw [this, keyLits_ra h]
  rfl
theorem run_neq_same {a : RA} (h : a.wf) (x y : Operand) (w : World) : (do eqGuard .neq 24 x y (rv24 a) (rv24 a); binOp .neq 24 (rv24 a) (rv24 a) : Sem Value).run Tryd.prog w = .ok (.bool false) w := by
  obtain ⟨r, hr, hiff⟩ := run_equal_deep (P := Tryd.prog) w (m := 2) (by omega) (k := 24) (by kernel_rfl) (by rw [Tryd.underlying24]) (keyOf_ra h) (keyOf_ra h)
  have hg : (eqGuard .neq 24 x y (rv24 a) (rv24 a)).run Tryd.prog w = .ok () w := by
    have h1 : Tryd.prog.eqGuardType Tryd.prog.depth 24 = false := by kernel_rfl
    have hp : (program : Sem Program).run Tryd.prog w = .ok Tryd.prog w := rfl
    simp only [eqGuard, rv24]
    simp
  have hb : (binOp .neq 24 (rv24 a) (rv24 a)).run Tryd.prog w = .ok (.bool (!r)) w := by
    show (do pure (.bool (!(← Op.equal 24 (rv24 a) (rv24 a)))) : Sem Value).run Tryd.prog w = _
    simp only [Sem.run_bind, hr, Result.andThen_ok, Sem.run_pure]
  obtain rfl : r = true := hiff.2 rfl
  simp only [Sem.run_bind, hg, Result.andThen_ok, hb]
  rfl
end Go.Proofs.YtofkhehcnfiopaaDoor.N
namespace Go.Proofs.YtofkhehcnfiopaaDoor.N
open Go Go.RowKit Go.Proofs
set_option linter.unusedSectionVars false
variable [I : Sys]

theorem EqAgents_c (A B : Option Addr) (c d : Nat) (l : List RA) (hl : l.length ≤ 400000) (hwf : ∀ x ∈ l, x.wf) (w : World) (hA : RdL RA.cells 5 w A l) (hB : RdL RA.cells 5 w B l) : Calls Tryd.prog 33 #[.slice A l.length c, .slice B l.length d] w fun e w' => e = .returned (.bool true) ∧ Grew w w' [] := by
  refine enter (N := 32) [(0, .slice A l.length c), (1, .slice B l.length d)] Tryd.func33 rfl Tryd.ntmps33 rfl rfl ?_
  refine cod_seq ?_
  refine cod_region ?_
  refine lst_assign rfl rfl ?_
  refine lst_nil ?_
  refine ex_then ?_
  refine cod_seq ?_
  refine cod_seq ?_
  refine cod_region ?_
  refine lst_assign rfl rfl ?_
  refine lst_nil ?_
  refine ex_then ?_
  refine cod_block ?_
  refine cod_loop (G := Nat) (fun k => k ≤ l.length) (fun k => l.length - k) (fun k => [(0, .slice A l.length c), (1, .slice B l.length d), (5, .int .i64 (k : Int))]) (fun k => []) 0 (Nat.zero_le _) sbn sbl ?_
  intro k hk
  (try dsimp only at hk ⊢)
  refine cod_seq ?_
  refine cod_seq ?_
  refine cod_region ?_
  refine lst_cut1 10 15 (.bool (decide ((k : Int) < (l.length : Int)))) ?_ ?_
  · skip
    refine lst_move rfl rfl ?_
    refine lst_move rfl rfl ?_
    refine lst_len rfl rfl Tryd.underlying22 ?_
    refine lst_int rfl rfl rfl bin_lss ?_
    refine lst_move rfl rfl ?_
    refine lst_split_bool (t := 10) rfl (fun hg10 => ?_) (fun hg10 => ?_)
    · skip
      refine lst_on rfl rfl ?_
      refine lst_move rfl rfl ?_
      refine lst_on rfl rfl ?_
      refine lst_move rfl rfl ?_
      refine lst_on rfl rfl ?_
      refine lst_len rfl rfl Tryd.underlying22 ?_
      refine lst_on rfl rfl ?_
      refine lst_int rfl rfl rfl bin_lss ?_
      refine lst_pick_true rfl rfl rfl ?_
      refine lst_nil ?_
      exact ex_cut (.cons (by simp_all [look]) sbn) sbl
    · skip
      refine lst_off rfl rfl rfl ?_
      refine lst_off rfl rfl rfl ?_
      refine lst_off rfl rfl rfl ?_
      refine lst_off rfl rfl rfl ?_
      refine lst_pick_false rfl rfl rfl ?_
      refine lst_nil ?_
      exact ex_cut (.cons (by simp_all [look]) sbn) sbl
  refine lst_nil ?_
  refine ex_then ?_
  refine cod_cond_bool rfl (fun hc0 => ?_) (fun hc0 => ?_)
  · skip
    have hk' : k < l.length := by have := of_decide_eq_true hc0; omega
    obtain ⟨b, o, rfl, hb, hcell⟩ := hA (by omega)
    obtain ⟨b2, o2, rfl, hb2, hcell2⟩ := hB (by omega)
    obtain ⟨x, hx⟩ : ∃ x, l[k]? = some x := ⟨_, List.getElem?_eq_getElem hk'⟩
    have hxw := hwf x (List.mem_of_getElem? hx)
    refine cod_skip ?_
    refine ex_then ?_
    refine cod_seq ?_
    refine cod_block ?_
    refine cod_seq ?_
    refine any_begin [] F.follows 9 rfl [false, false, false, false, false, false, false, false, false] rfl ?_
    refine any_tk 0 rfl rfl rfl (yld_move rfl) ?_
    refine any_tk 1 rfl rfl rfl (yld_move rfl) ?_
    refine any_tk 2 rfl rfl rfl (yld_index (j := k) rfl rfl Tryd.underlying22 F.ti24 rfl hk') ?_
    refine any_tk 3 rfl rfl rfl (yld_loadN_at (l := [.int .i64 x.needs, .int .i64 x.no, .int .i64 x.takes, .int .i64 x.leaves, .int .i64 x.cost]) rfl F.agg24 F.ti24 rfl (fun a w ha j u hu => ha.old (hcell k x hx j u hu) hb)) ?_
    refine any_tk 4 rfl rfl rfl (yld_move rfl) ?_
    refine any_tk 5 rfl rfl rfl (yld_move rfl) ?_
    refine any_tk 6 rfl rfl rfl (yld_index (j := k) rfl rfl Tryd.underlying22 F.ti24 rfl hk') ?_
    refine any_tk 7 rfl rfl rfl (yld_loadN_at (l := [.int .i64 x.needs, .int .i64 x.no, .int .i64 x.takes, .int .i64 x.leaves, .int .i64 x.cost]) rfl F.agg24 F.ti24 rfl (fun a w ha j u hu => ha.old (hcell2 k x hx j u hu) hb2)) ?_
    refine any_tk 8 rfl rfl rfl (yld_bin rfl rfl (run_neq_same hxw _ _)) ?_
    refine any_done rfl (by kernel_rfl) ?_
    refine ex_then ?_
    refine cod_cond_false rfl ?_
    refine cod_skip ?_
    refine ex_block_normal ?_
    refine ex_then ?_
    refine cod_region ?_
    refine lst_move rfl rfl ?_
    refine lst_int rfl rfl rfl (fun w => bin_add w (wrap_i64' _ (by omega) (by omega))) ?_
    refine lst_assign rfl rfl ?_
    refine lst_nil ?_
    refine ex_round (k + 1) (by (try dsimp only); omega) (by (try dsimp only); omega) sbn sbl
  · skip
    refine cod_exit ?_
    refine ex_then_exit ?_
    refine ex_then_exit ?_
    refine ex_block_exit ?_
    refine ex_then ?_
    refine cod_seq ?_
    refine cod_region ?_
    refine lst_move rfl rfl ?_
    refine lst_len rfl rfl Tryd.underlying22 ?_
    refine lst_move rfl rfl ?_
    refine lst_len rfl rfl Tryd.underlying22 ?_
    refine lst_int (v := .bool true) rfl rfl rfl (fun w => by rw [bin_eql]; simp) ?_
    refine lst_assign rfl rfl ?_
    refine lst_nil ?_
    refine ex_then ?_
    refine cod_ret ?_
    exact ex_ret rfl (fun a w ha => res_one rfl rfl ha) (fun a w ha => ⟨rfl, ha.grown (List.nil_sublist _)⟩)

end Go.Proofs.YtofkhehcnfiopaaDoor.N
namespace Go.Proofs.YtofkhehcnfiopaaDoor.N
open Go Go.RowKit Go.Proofs
set_option linter.unusedSectionVars false
variable [I : Sys]
section
variable {C : Ctx} {fr : List (Nat × Value)} {hp hp' : List Res} {ops : Array Oper} {Q : Exit → Act → World → Prop} {rest : List Oper}
  {d : Nat} {ty : TypeId} {pos : String} {after : Array Edge}
/-- A call that turns a block of the caller's and hands back something new. -/
theorem lst_call_pul1 {X : Type} (b : Nat) {o : Obj} (o' : X → Obj) (r : X → Res) {T : List Res} {f : FuncId} {vs : List Value} {args : Array Operand} {ts : Array TypeId} (p : X → Prop) (val : X → Value) [hq : Pul b o hp T] (hd : Nat.blt d C.N = true)
    (hargs : args.toList.map (ev fr) = vs.map some) (hf : Enters C.P f)
    (hc : ∀ a w, At C fr (.blk b o :: T) a w → Calls C.P f vs.toArray w fun e w' => ∃ y, p y ∧ e = .returned (val y) ∧ At C fr (r y :: .blk b (o' y) :: T) a w')
    (k : ∀ y, p y → Lst C ops Q rest ((d, val y) :: fr) (r y :: .blk b (o' y) :: T)) : Lst C ops Q (⟨some d, .call { callee := .value (.func f), args := args, argTypes := ts }, ty, pos, after, none⟩ :: rest) fr hp := by
  refine lst_call (first := []) (cap := []) (p := p) (val := val) (rs := fun y => r y :: .blk b (o' y) :: T) hd rfl hargs hf (fun a w ha => ?_) k
  simp only [List.nil_append, List.append_nil]
  exact hc a w (ha.permed hq.perm)
end
end Go.Proofs.YtofkhehcnfiopaaDoor.N
namespace Go.Proofs.YtofkhehcnfiopaaDoor.N
open Go Go.RowKit Go.Proofs
set_option linter.unusedSectionVars false
variable [I : Sys]
theorem F.ti22 : TI Tryd.prog 22 (.slice none 0 0) 1 24 := TI.of (by kernel_rfl)
theorem several_c {C : Ctx} {fr : List (Nat × Value)} {T : List Res} {a : Act} {w : World} (hC : C.P = Tryd.prog) {hb tk st nc : Nat} {nA : Option Addr} {nums : List Int} (hB : C.w0.heap.size = C.B) (hN : RdL icell 1 C.w0 nA nums) (htk : tk ≤ 900000) (hst : st < 18446744073709551616) {A : Option Addr} {n c : Nat} {x : RA} (ha : At C fr (.blk hb (hatO nA nums.length nc (tk) (st)) :: T) a w) : Calls C.P 23 #[.slice A n c, .agg [.int .i64 x.needs, .int .i64 x.no, .int .i64 x.takes, .int .i64 x.leaves, .int .i64 x.cost].toArray, .pointer (some ⟨hb, 0, none⟩)] w fun e w' => ∃ (tk' st' b : Nat) (l1 l2 : List Ag) (A1 A2 : Option Addr) (c1 c2 : Nat), tk' ≤ tk + 400 ∧ st' < 18446744073709551616 ∧ l1.length ≤ 4 ∧ (∀ y ∈ l1, y.ok) ∧ l2.length ≤ 3 ∧ (∀ y ∈ l2, y.ok) ∧ e = .returned (.slice (some ⟨b, 0, none⟩) 3 3) ∧ At C fr (.blk b (.cells [.slice A n c, .slice A1 l1.length c1, .slice A2 (l2.length + 1) c2].toArray 22 (0, 0)) :: .row 24 5 A1 l1.length c1 (l1.flatMap Ag.cells) :: .row 24 5 A2 (l2.length + 1) c2 (l2.flatMap Ag.cells ++ [.int .i64 x.needs, .int .i64 x.no, .int .i64 x.takes, .int .i64 x.leaves, .int .i64 x.cost]) :: .blk hb (hatO nA nums.length nc (tk') (st')) :: T) a w' := by
  obtain ⟨P, B, w0, N0, ds⟩ := C
  obtain rfl : P = Tryd.prog := hC
  (try dsimp only at hB)
  (try dsimp only at hN)
  refine enter_in (N := 18) [(0, .slice A n c), (1, .agg [.int .i64 x.needs, .int .i64 x.no, .int .i64 x.takes, .int .i64 x.leaves, .int .i64 x.cost].toArray), (2, .pointer (some ⟨hb, 0, none⟩))] ha Tryd.func23 rfl Tryd.ntmps23 rfl rfl ?_
  refine cod_seq ?_
  refine cod_region ?_
  refine lst_box rfl rfl ?_
  intro b4
  refine lst_assign rfl rfl ?_
  refine lst_nil ?_
  refine ex_then ?_
  refine cod_seq ?_
  refine cod_region ?_
  refine lst_move rfl rfl ?_
  refine lst_call_pul1 (X := Nat × Nat × List Ag × Option Addr × Nat) (vs := [_, _, _]) hb (fun y => hatO nA nums.length nc y.1 y.2.1) (fun y => .row 24 5 y.2.2.2.1 y.2.2.1.length y.2.2.2.2 (y.2.2.1.flatMap Ag.cells)) (fun y => y.1 ≤ tk + 200 ∧ y.2.1 < 18446744073709551616 ∧ y.2.2.1.length ≤ 4 ∧ ∀ x ∈ y.2.2.1, x.ok) (fun y => .slice y.2.2.2.1 y.2.2.1.length y.2.2.2.2) rfl rfl F.ent34 (fun a w ha => (AgentsOf_c (C := ⟨Tryd.prog, B, w0, _, _⟩) rfl hB hN (tk := tk) (st := st) (many := 4) (few := 4) (by omega) (by omega) (by omega) (by omega) (by omega) ha).mono (fun e w' h => by obtain ⟨t', s', l, A', c', h1, h2, h3, h4, h5, h6⟩ := h; exact ⟨(t', s', l, A', c'), ⟨by (try dsimp only); omega, h2, h3, h4⟩, h5, h6⟩)) ?_
  rintro ⟨t1, s1, l1, A1, c1⟩ ⟨ht1, hs1, hl1, ho1⟩
  dsimp only at ht1 hs1 hl1 ho1 ⊢
  refine lst_assign rfl rfl ?_
  refine lst_nil ?_
  refine ex_then ?_
  refine cod_seq ?_
  refine any_begin [.b hb] F.follows 9 rfl [false, false, false, false, false, false, false, false, false] rfl ?_
  refine any_tk 0 rfl rfl rfl (yld_move rfl) ?_
  refine any_tk 1 rfl rfl rfl (yld_move rfl) ?_
  refine any_tk 2 rfl rfl rfl (yld_move rfl) ?_
  refine any_tk 4 rfl rfl rfl (yld_loadN rfl F.agg24 F.ti24) ?_
  refine any_two 3 5 (by kernel_rfl) rfl rfl rfl rfl ?_ ?_
  · skip
    refine lst_call_pul1 (X := Nat × Nat × List Ag × Option Addr × Nat) (vs := [_, _, _]) hb (fun y => hatO nA nums.length nc y.1 y.2.1) (fun y => .row 24 5 y.2.2.2.1 y.2.2.1.length y.2.2.2.2 (y.2.2.1.flatMap Ag.cells)) (fun y => y.1 ≤ tk + 400 ∧ y.2.1 < 18446744073709551616 ∧ y.2.2.1.length ≤ 3 ∧ ∀ x ∈ y.2.2.1, x.ok) (fun y => .slice y.2.2.2.1 y.2.2.1.length y.2.2.2.2) rfl rfl F.ent34 (fun a w ha => (AgentsOf_c (C := ⟨Tryd.prog, B, w0, _, _⟩) rfl hB hN (tk := t1) (st := s1) (many := 3) (few := 3) (by omega) (by omega) (by omega) (by omega) (by omega) ha).mono (fun e w' h => by obtain ⟨t', s', l, A', c', h1, h2, h3, h4, h5, h6⟩ := h; exact ⟨(t', s', l, A', c'), ⟨by (try dsimp only); omega, h2, h3, h4⟩, h5, h6⟩)) ?_
    rintro ⟨t2, s2, l2, A2, c2⟩ ⟨ht2, hs2, hl2, ho2⟩
    dsimp only at ht2 hs2 hl2 ho2 ⊢
    refine lst_nil ?_
    refine any_next sbl ?_
    refine any_one 5 (by kernel_rfl) rfl rfl ?_
    refine lst_litN (vs := [(0, _)]) [_, _, _, _, _] rfl rfl Tryd.underlying22 F.ti24 rfl rfl rfl ⟨rfl, [_, _, _, _, _], [], rfl, rfl, rfl, rfl⟩ ?_
    intro b15
    refine lst_nil ?_
    refine any_next sbl ?_
    refine any_one 6 (by kernel_rfl) rfl rfl ?_
    refine lst_append rfl rfl rfl Tryd.underlying22 F.ti24 rfl rfl rfl (by unfold maxLen; omega) (by omega) ?_
    intro A3 c3
    refine lst_nil ?_
    refine any_next sbl ?_
    refine any_one 7 (by kernel_rfl) rfl rfl ?_
    refine lst_lit (vs := [(0, _), (1, _), (2, _)]) rfl rfl Tryd.underlying29 F.ti22 rfl rfl rfl ?_
    intro b17
    refine lst_nil ?_
    refine any_next sbl ?_
    refine any_tk 8 rfl rfl rfl (yld_assign rfl) ?_
    refine any_done rfl (by kernel_rfl) ?_
    refine ex_then ?_
    refine cod_ret ?_
    exact ex_ret rfl (fun a w ha => res_one rfl rfl ha) (fun _ _ ha' => ⟨t2, s2, b17, l1, l2, A1, A3, c1, c3, ht2, hs2, hl1, ho1, hl2, ho2, rfl, ha.back (ha'.pck pkk)⟩)
  · skip
    refine lst_litN (vs := [(0, _)]) [_, _, _, _, _] rfl rfl Tryd.underlying22 F.ti24 rfl rfl rfl ⟨rfl, [_, _, _, _, _], [], rfl, rfl, rfl, rfl⟩ ?_
    intro b15
    refine lst_nil ?_
    refine any_next sbl ?_
    refine any_one 3 (by kernel_rfl) rfl rfl ?_
    refine lst_call_pul1 (X := Nat × Nat × List Ag × Option Addr × Nat) (vs := [_, _, _]) hb (fun y => hatO nA nums.length nc y.1 y.2.1) (fun y => .row 24 5 y.2.2.2.1 y.2.2.1.length y.2.2.2.2 (y.2.2.1.flatMap Ag.cells)) (fun y => y.1 ≤ tk + 400 ∧ y.2.1 < 18446744073709551616 ∧ y.2.2.1.length ≤ 3 ∧ ∀ x ∈ y.2.2.1, x.ok) (fun y => .slice y.2.2.2.1 y.2.2.1.length y.2.2.2.2) rfl rfl F.ent34 (fun a w ha => (AgentsOf_c (C := ⟨Tryd.prog, B, w0, _, _⟩) rfl hB hN (tk := t1) (st := s1) (many := 3) (few := 3) (by omega) (by omega) (by omega) (by omega) (by omega) ha).mono (fun e w' h => by obtain ⟨t', s', l, A', c', h1, h2, h3, h4, h5, h6⟩ := h; exact ⟨(t', s', l, A', c'), ⟨by (try dsimp only); omega, h2, h3, h4⟩, h5, h6⟩)) ?_
    rintro ⟨t2, s2, l2, A2, c2⟩ ⟨ht2, hs2, hl2, ho2⟩
    dsimp only at ht2 hs2 hl2 ho2 ⊢
    refine lst_nil ?_
    refine any_next sbl ?_
    refine any_one 6 (by kernel_rfl) rfl rfl ?_
    refine lst_append rfl rfl rfl Tryd.underlying22 F.ti24 rfl rfl rfl (by unfold maxLen; omega) (by omega) ?_
    intro A3 c3
    refine lst_nil ?_
    refine any_next sbl ?_
    refine any_one 7 (by kernel_rfl) rfl rfl ?_
    refine lst_lit (vs := [(0, _), (1, _), (2, _)]) rfl rfl Tryd.underlying29 F.ti22 rfl rfl rfl ?_
    intro b17
    refine lst_nil ?_
    refine any_next sbl ?_
    refine any_tk 8 rfl rfl rfl (yld_assign rfl) ?_
    refine any_done rfl (by kernel_rfl) ?_
    refine ex_then ?_
    refine cod_ret ?_
    exact ex_ret rfl (fun a w ha => res_one rfl rfl ha) (fun _ _ ha' => ⟨t2, s2, b17, l1, l2, A1, A3, c1, c3, ht2, hs2, hl1, ho1, hl2, ho2, rfl, ha.back (ha'.pck pkk)⟩)

end Go.Proofs.YtofkhehcnfiopaaDoor.N
namespace Go.Proofs.YtofkhehcnfiopaaDoor.N
open Go Go.RowKit Go.Proofs
set_option linter.unusedSectionVars false
variable [I : Sys]
theorem sel_ex {P : Option Addr → Nat → List RA → Prop} {A0 A1 A2 : Option Addr} {c0 c1 c2 : Nat} {L0 L1 L2 : List RA} (h0 : P A0 c0 L0) (h1 : P A1 c1 L1) (h2 : P A2 c2 L2) {i : Nat} (hi : i < 3) :
    ∃ A c L, ([.slice A0 L0.length c0, .slice A1 L1.length c1, .slice A2 L2.length c2] : List Value)[i]? = some (.slice A L.length c) ∧ P A c L := by
  rcases (show i = 0 ∨ i = 1 ∨ i = 2 by omega) with rfl | rfl | rfl
  · exact ⟨A0, c0, L0, rfl, h0⟩
  · exact ⟨A1, c1, L1, rfl, h1⟩
  · exact ⟨A2, c2, L2, rfl, h2⟩
theorem raw_cells (l : List Ag) : (l.map Ag.raw).flatMap RA.cells = l.flatMap Ag.cells := by
  induction l with
  | nil => rfl
  | cons x l ih => rw [List.map_cons, List.flatMap_cons, List.flatMap_cons, ih]; rfl
theorem raw_wf {x : Ag} (h : x.ok) : x.raw.wf := by
  obtain ⟨h1, h2, h3, h4, _, h5⟩ := h
  refine ⟨?_, ?_, ?_, ?_, ?_⟩ <;> unfold W64 Ag.raw <;> dsimp only <;> omega
theorem Rds.ag {C : Ctx} {T : List Res} {A : Option Addr} {l : List RA} (hc : checkR l = 0) (h : Rds RA.cells 5 C T A l) : Rds Ag.cells 5 C T A (agsOf l) :=
  fun C' fr hp a w ha h1 h2 h3 hm => (h C' fr hp a w ha h1 h2 h3 hm).ag hc
theorem Rds.sub {α : Type} {cells : α → List Value} {size : Nat} {C : Ctx} {T T' : List Res} {A : Option Addr} {l : List α} (h : Rds cells size C T A l) (hs : ∀ r ∈ T, r ∈ T') : Rds cells size C T' A l :=
  fun C' fr hp a w ha h1 h2 h3 hm => h C' fr hp a w ha h1 h2 h3 (fun r hr => hm r (hs r hr))
end Go.Proofs.YtofkhehcnfiopaaDoor.N
namespace Go.Proofs.YtofkhehcnfiopaaDoor.N
open Go Go.RowKit Go.Proofs
set_option linter.unusedSectionVars false
variable [I : Sys]
theorem F.ent23 : Enters Tryd.prog 23 := enters_of Tryd.func23 rfl (by kernel_rfl)
theorem F.ent33 : Enters Tryd.prog 33 := enters_of Tryd.func33 rfl (by kernel_rfl)
theorem F.one22 : One Tryd.prog 22 := ⟨by unfold aggB; rw [Tryd.underlying22], by rw [Tryd.underlying22]; simp⟩
end Go.Proofs.YtofkhehcnfiopaaDoor.N
namespace Go.Proofs.YtofkhehcnfiopaaDoor.N
open Go Go.RowKit Go.Proofs
set_option linter.unusedSectionVars false
variable [I : Sys]
section
variable {C : Ctx} {fr : List (Nat × Value)} {hp : List Res} {a : Act} {w : World} {ops : Array Oper} {Q : Exit → Act → World → Prop} {rest : List Oper}
  {d : Nat} {ty : TypeId} {pos : String} {after : Array Edge}
theorem ints_zeros : ∀ n : Nat, ints (List.replicate n 0) = List.replicate n (.int .i64 0)
  | 0 => rfl
  | n + 1 => by rw [List.replicate_succ, List.replicate_succ, ← ints_zeros n]; rfl
theorem madeCells_ints (n : Nat) : madeCells (Value.int .i64 0).cells n = (ints (List.replicate n 0)).toArray := by
  rw [ints_zeros]
  unfold madeCells
  apply Array.toList_inj.1
  apply List.ext_getElem?
  intro i
  by_cases hi : i < n
  · simp [Value.cells, hi, Nat.mod_one]
  · simp [Value.cells, hi]
/-- A slice of numbers that is made. -/
theorem lst_make_ints {t e : TypeId} {x y : Operand} {n : Nat} (hd : Nat.blt d C.N = true) (hx : ev fr x = some (.int .i64 (n : Int))) (hy : ev fr y = some (.int .i64 (n : Int))) (ht : C.P.underlying t = some (.slice e)) (hz : TI C.P e (.int .i64 0) 1 8) (hn : n ≤ 1000000)
    (k : ∀ b, Lst C ops Q rest ((d, .slice (some ⟨b, 0, none⟩) n n) :: fr) (.row e 1 (some ⟨b, 0, none⟩) n n (ints (List.replicate n 0)) :: hp)) : Lst C ops Q (⟨some d, .makeSlice t x y, ty, pos, after, none⟩ :: rest) fr hp := by
  refine lst_of rfl fun a w ha => ?_
  obtain ⟨i, hi, hz0, hs, hb⟩ := hz
  refine ⟨tame_makeSlice .., ?_⟩
  have hm : (Instr.makeSlice t (.int .i64 (n : Int)) (.int .i64 (n : Int))).run C.P w = .ok (.slice (some ⟨w.heap.size, 0, none⟩) n n) (w.alloc (.cells (ints (List.replicate n 0)).toArray e)) := by
    have h := run_makeSlice (P := C.P) w t e i (.int .i64 0) ht hi hz0 .i64 .i64 (n : Int) (n : Int) (by omega) (Int.le_refl _) (by rw [hs]; simp; omega) (by rw [hb]; omega) (by omega)
    simp only [Int.toNat_natCast, hs, Nat.mul_one] at h
    rw [h, madeCells_ints]
  have hr : (execOp a.eval ⟨some d, .makeSlice t x y, ty, pos, after, none⟩).run C.P w = .ok (.value (.slice (some ⟨w.heap.size, 0, none⟩) n n)) (w.alloc (.cells (ints (List.replicate n 0)).toArray e)) := by
    simp only [execOp, ha.eval hx, ha.eval hy, Sem.run_bind, hm, Result.andThen_ok, Sem.run_pure]
  rw [hr]
  refine k w.heap.size _ _ (At.put ?_ (lt_of_blt hd) _)
  have h1 := ha.alloc (.cells (ints (List.replicate n 0)).toArray e)
  have hlen : (ints (List.replicate n 0)).length = n := by rw [ints_zeros, List.length_replicate]
  refine ⟨h1.size, h1.defs, h1.slots, h1.below, h1.base, fun r hr => ?_, ?_⟩
  · rcases List.mem_cons.1 hr with rfl | hr
    · have h2 := h1.own _ (List.mem_cons_self ..)
      exact ⟨by rw [hlen, Nat.mul_one], .inr ⟨_, n, _, rfl, h2.1, h2.2, Nat.le_refl _, by unfold maxLen; omega, by rw [List.size_toArray, hlen, Nat.mul_one], by rw [Nat.mul_one]; exact List.take_of_length_le (by show (ints (List.replicate n 0)).length ≤ n; rw [hlen]; exact Nat.le_refl _)⟩⟩
    · exact h1.own r (List.mem_cons_of_mem _ hr)
  · exact h1.apart
end
end Go.Proofs.YtofkhehcnfiopaaDoor.N
namespace Go.Proofs.YtofkhehcnfiopaaDoor.N
open Go Go.RowKit Go.Proofs
set_option linter.unusedSectionVars false
variable [I : Sys]
/-! How many agents the shortest ways have: what rounds that go on in place come to. -/
def farN : Nat := 1048576
variable {ags : List Ag} {used p : Nat}
structure RI (ags : List Ag) (used p r m i : Nat) (L : List Nat) : Prop where
  len : L.length = 64
  le : ∀ f, f < 64 → L.getD f 0 ≤ farN
  snd : ∀ f, f < 64 → L.getD f 0 < farN → ∃ c, Wy ags used p f c (L.getD f 0)
  cmp : ∀ f, f < 64 → ∀ c k, Wy ags used p f c k → (k ≤ r ∨ (k ≤ r + 1 ∧ f < m)) → L.getD f 0 ≤ k
  cur : ∀ j, j < i → j ∈ canTo ags used m ags.length → ∀ c k, Wy ags used p (putN (ags.getD j default) m) c k → k ≤ r → L.getD m 0 ≤ k + 1
/-- What the rounds begin with. -/
def initN (p k : Nat) : List Nat := (List.range 64).map fun f => if f < k then (if nn f p = 0 then 0 else farN) else 0
theorem initN_zero (p : Nat) : initN p 0 = List.replicate 64 0 := by
  unfold initN
  simp only [Nat.not_lt_zero, if_false]
  rfl
theorem initN_len (p k : Nat) : (initN p k).length = 64 := by simp [initN]
theorem initN_far {p k : Nat} (hk : k < 64) (h : ¬ nn k p = 0) : (initN p k).set k farN = initN p (k + 1) := by
  apply List.ext_getElem?
  intro f
  rw [List.getElem?_set]
  by_cases hf : f < 64
  · by_cases e : k = f
    · subst e
      simp [initN, hk, h]
    · have e2 : (f < k + 1) = (f < k) := propext (by omega)
      simp only [if_neg e]
      simp [initN, hf, e2]
  · have e : k ≠ f := by omega
    simp [initN, hf, e]
theorem initN_set0 {p k : Nat} (hk : k < 64) (h : nn k p = 0) : ((initN p k).set k farN).set k 0 = initN p (k + 1) := by
  rw [List.set_set]
  apply List.ext_getElem?
  intro f
  rw [List.getElem?_set]
  by_cases hf : f < 64
  · by_cases e : k = f
    · subst e
      simp [initN, hk, h]
    · have e2 : (f < k + 1) = (f < k) := propext (by omega)
      simp only [if_neg e]
      simp [initN, hf, e2]
  · have e : k ≠ f := by omega
    simp [initN, hf, e]
theorem getN_set {L : List Nat} {f g x : Nat} (hf : f < L.length) : (L.set f x).getD g 0 = if f = g then x else L.getD g 0 := by
  rw [List.getD_eq_getElem?_getD, List.getElem?_set, List.getD_eq_getElem?_getD]
  by_cases e : f = g
  · subst e
    rw [if_pos rfl, if_pos rfl, if_pos hf]; rfl
  · rw [if_neg e, if_neg e]
theorem initN_getD {p f : Nat} (hf : f < 64) : (initN p 64).getD f 0 = if nn f p = 0 then 0 else farN := by
  simp [initN, List.getD_eq_getElem?_getD, hf]
theorem RI.start : RI ags used p 0 0 0 (initN p 64) where
  len := initN_len p 64
  le f hf := by rw [initN_getD hf]; split <;> simp [farN]
  snd f hf h := by
    rw [initN_getD hf] at h ⊢
    by_cases h0 : nn f p = 0
    · rw [if_pos h0]; exact ⟨0, .done h0⟩
    · rw [if_neg h0] at h; exact absurd h (Nat.lt_irrefl _)
  cmp f hf c k h hk := by
    have hk0 : k = 0 := by omega
    subst hk0
    rw [initN_getD hf]
    cases h with
    | done h0 => rw [if_pos h0]; exact Nat.le_refl _
  cur j hj := absurd hj (Nat.not_lt_zero _)
theorem RI.skip {r m i : Nat} {L : List Nat} (h : RI ags used p r m i L) (hi : i ∉ canTo ags used m ags.length) : RI ags used p r m (i + 1) L :=
  { h with
    cur := fun j hj hc => by
      rcases Nat.lt_succ_iff_lt_or_eq.1 hj with h1 | rfl
      · exact h.cur j h1 hc
      · exact absurd hc hi }
theorem RI.put {r m i : Nat} {L : List Nat} (hok : Oks ags) (h : RI ags used p r m i L) (hm : m < 64) (hi : i ∈ canTo ags used m ags.length) :
    RI ags used p r m (i + 1) (L.set m (min (L.getD m 0) (1 + L.getD (putN (ags.getD i default) m) 0))) := by
  have hil := (can_mem.1 hi).1
  have hxo : (ags.getD i default).ok := hok.2 _ (by rw [List.getD_eq_getElem?_getD, List.getElem?_eq_getElem hil]; exact List.getElem_mem hil)
  have hg : putN (ags.getD i default) m < 64 := putN_lt hxo hm
  have hml : m < L.length := by rw [h.len]; exact hm
  have dec : ∀ f, (L.set m (min (L.getD m 0) (1 + L.getD (putN (ags.getD i default) m) 0))).getD f 0 ≤ L.getD f 0 := fun f => by
    rw [getN_set hml]
    by_cases e : m = f
    · subst e; rw [if_pos rfl]; exact Nat.min_le_left _ _
    · rw [if_neg e]; exact Nat.le_refl _
  refine ⟨by rw [List.length_set]; exact h.len, fun f hf => Nat.le_trans (dec f) (h.le f hf), fun f hf hlt => ?_, fun f hf c k hw hk => Nat.le_trans (dec f) (h.cmp f hf c k hw hk), fun j hj hc c k hw hk => ?_⟩
  · rw [getN_set hml] at hlt ⊢
    by_cases e : m = f
    · subst e
      rw [if_pos rfl] at hlt ⊢
      rcases Nat.le_total (L.getD m 0) (1 + L.getD (putN (ags.getD i default) m) 0) with h1 | h1
      · rw [Nat.min_eq_left h1] at hlt ⊢
        exact h.snd m hm hlt
      · rw [Nat.min_eq_right h1] at hlt ⊢
        obtain ⟨c, hc⟩ := h.snd _ hg (by omega)
        rw [Nat.add_comm]
        exact ⟨_, .step hi hc⟩
    · rw [if_neg e] at hlt ⊢
      exact h.snd f hf hlt
  · rcases Nat.lt_succ_iff_lt_or_eq.1 hj with h1 | rfl
    · exact Nat.le_trans (dec m) (h.cur j h1 hc c k hw hk)
    · rw [getN_set hml, if_pos rfl]
      have := h.cmp _ hg c k hw (.inl hk)
      omega
theorem RI.next {r m : Nat} {L : List Nat} (h : RI ags used p r m ags.length L) (hm : m < 64) : RI ags used p r (m + 1) 0 L :=
  { h with
    cmp := fun f hf c k hw hk => by
      by_cases h0 : k ≤ r ∨ (k ≤ r + 1 ∧ f < m)
      · exact h.cmp f hf c k hw h0
      · have hfm : f = m := by omega
        subst hfm
        cases hw with
        | done h1 => exact h.cmp f hf 0 0 (.done h1) (.inl (Nat.zero_le _))
        | step hi hw' => exact h.cur _ (can_mem.1 hi).1 hi _ _ hw' (by omega)
    cur := fun j hj => absurd hj (Nat.not_lt_zero _) }
theorem RI.round {r : Nat} {L : List Nat} (h : RI ags used p r 64 0 L) : RI ags used p (r + 1) 0 0 L :=
  { h with
    cmp := fun f hf c k hw hk => h.cmp f hf c k hw (by omega)
    cur := fun j hj => absurd hj (Nat.not_lt_zero _) }
/-- What the reference's numbers say of each melt. -/
structure Dst (ags : List Ag) (used p : Nat) (L : List Nat) : Prop where
  len : L.length = 64
  far : ∀ f, f < 64 → (L.getD f 0 = farN ↔ ¬ Clr ags used p f)
  way : ∀ f, f < 64 → L.getD f 0 ≠ farN → L.getD f 0 ≤ 63 ∧ (∃ c, Wy ags used p f c (L.getD f 0)) ∧ ∀ c k, Wy ags used p f c k → L.getD f 0 ≤ k
theorem RI.dst {L : List Nat} (hok : Oks ags) (h : RI ags used p 64 0 0 L) : Dst ags used p L := by
  have short : ∀ f, f < 64 → Clr ags used p f → L.getD f 0 ≤ 63 ∧ ∀ c k, Wy ags used p f c k → L.getD f 0 ≤ k := fun f hf ⟨c, k, hw⟩ => by
    obtain ⟨c', k', ho⟩ := Opt.ex hw
    have h63 := Opt.short hok hf ho
    have h1 := h.cmp f hf _ _ ho.1 (.inl (by omega))
    refine ⟨by omega, fun c2 k2 hw2 => ?_⟩
    by_cases h2 : k2 ≤ 64
    · exact h.cmp f hf c2 k2 hw2 (.inl h2)
    · omega
  have far_ : ∀ f, f < 64 → (L.getD f 0 = farN ↔ ¬ Clr ags used p f) := fun f hf => by
    constructor
    · intro e hc
      have := (short f hf hc).1
      rw [e] at this
      simp [farN] at this
    · intro hc
      have h1 := h.le f hf
      by_cases e : L.getD f 0 = farN
      · exact e
      · obtain ⟨c, hw⟩ := h.snd f hf (by omega)
        exact absurd ⟨c, _, hw⟩ hc
  refine ⟨h.len, far_, fun f hf hne => ?_⟩
  obtain ⟨c, hw⟩ := h.snd f hf (by have := h.le f hf; omega)
  have := short f hf ⟨c, _, hw⟩
  exact ⟨this.1, ⟨c, hw⟩, this.2⟩
theorem RI.same {r m i f : Nat} {L : List Nat} (h : RI ags used p r m i L) (hf : f < 64) : L.set f (min (L.getD f 0) farN) = L := by
  rw [Nat.min_eq_left (h.le f hf)]
  apply List.ext_getElem?
  intro g
  rw [List.getElem?_set]
  by_cases e : f = g
  · subst e
    have : f < L.length := by rw [h.len]; exact hf
    rw [if_pos rfl, if_pos this, List.getD_eq_getElem?_getD, List.getElem?_eq_getElem this]; rfl
  · rw [if_neg e]
end Go.Proofs.YtofkhehcnfiopaaDoor.N
namespace Go.Proofs.YtofkhehcnfiopaaDoor.N
open Go Go.RowKit Go.Proofs
set_option linter.unusedSectionVars false
variable [I : Sys]

theorem rPuts_c (A : Option Addr) (c : Nat) (ags : List Ag) (hok : Oks ags) (p : Nat) (hp : p < 64) (used : Nat) (sh : Int) (hU : ∀ i, i < ags.length → (used.testBit i = true ↔ (i : Int) ≠ sh)) (w : World) (hA : RdL Ag.cells 5 w A ags) : Calls Tryd.prog 103 #[.slice A ags.length c, .int .i64 (p : Int), .int .i64 sh] w fun e w' => ∃ (L : List Nat) (b : Nat), Dst ags used p L ∧ e = .returned (.slice (some ⟨b, 0, none⟩) 64 64) ∧ Grew w w' [.row 3 1 (some ⟨b, 0, none⟩) 64 64 (ints L)] := by
  refine enter (N := 83) [(0, .slice A ags.length c), (1, .int .i64 (p : Int)), (2, .int .i64 sh)] Tryd.func103 rfl Tryd.ntmps103 rfl rfl ?_
  refine cod_seq ?_
  refine cod_region ?_
  refine lst_assign rfl rfl ?_
  refine lst_nil ?_
  refine ex_then ?_
  refine cod_seq ?_
  refine cod_region ?_
  refine lst_make_ints (n := 64) rfl rfl rfl Tryd.underlying25 F.ti3 (by omega) ?_
  intro bL
  rw [← initN_zero p]
  refine lst_assign rfl rfl ?_
  refine lst_nil ?_
  refine ex_then ?_
  refine cod_seq ?_
  refine cod_seq ?_
  refine cod_region ?_
  refine lst_assign rfl rfl ?_
  refine lst_nil ?_
  refine ex_then ?_
  refine cod_block ?_
  refine cod_loop (G := Nat) (fun k => k ≤ 64) (fun k => 64 - k) (fun k => [(0, .slice A ags.length c), (1, .int .i64 (p : Int)), (2, .int .i64 sh), (7, .slice (some ⟨bL, 0, none⟩) 64 64), (8, .int .i64 (k : Int))]) (fun k => [.row 3 1 (some ⟨bL, 0, none⟩) 64 64 (ints (initN p k))]) 0 (Nat.zero_le _) sbn sbl ?_
  intro k hk
  (try dsimp only at hk ⊢)
  refine cod_seq ?_
  refine cod_seq ?_
  refine cod_region ?_
  refine lst_move rfl rfl ?_
  refine lst_int rfl rfl rfl bin_leq ?_
  refine lst_nil ?_
  refine ex_then ?_
  refine cod_cond_dec rfl (fun hc0 => ?_) (fun hc0 => ?_)
  · skip
    have hk6 : k < 64 := by omega
    refine cod_skip ?_
    refine ex_then ?_
    refine cod_seq ?_
    refine cod_block ?_
    refine cod_seq ?_
    refine cod_region ?_
    refine lst_move rfl rfl ?_
    refine lst_move rfl rfl ?_
    refine lst_index (j := k) rfl rfl rfl Tryd.underlying25 F.ti3 rfl hk6 ?_
    refine lst_store_row (N := 64) (xs := ints (initN p k)) (out := ints ((initN p k).set k farN)) rfl rfl F.ti3 rfl (by rw [Nat.zero_add, Nat.mul_one]; exact splice_ints (by rw [initN_len]; exact hk6)) (by repeat (first | exact Upd.head _ | apply Upd.tail)) ?_
    refine lst_nil ?_
    refine ex_then ?_
    refine cod_seq ?_
    refine cod_region ?_
    refine lst_move rfl rfl ?_
    refine lst_move rfl rfl ?_
    refine lst_fn0 (vs := [_, _]) rfl rfl F.ent37 (fun a w ha => Clear_c k p hk6 hp w) ?_
    refine lst_nil ?_
    refine ex_then ?_
    refine cod_cond_dec rfl (fun hc1 => ?_) (fun hc1 => ?_)
    · skip
      refine cod_region ?_
      refine lst_move rfl rfl ?_
      refine lst_move rfl rfl ?_
      refine lst_index (j := k) rfl rfl rfl Tryd.underlying25 F.ti3 rfl hk6 ?_
      refine lst_store_row (N := 64) (xs := ints ((initN p k).set k farN)) (out := ints (((initN p k).set k farN).set k 0)) rfl rfl F.ti3 rfl (by rw [Nat.zero_add, Nat.mul_one]; exact splice_ints (by rw [List.length_set, initN_len]; exact hk6)) (by repeat (first | exact Upd.head _ | apply Upd.tail)) ?_
      rw [initN_set0 hk6 hc1]
      refine lst_nil ?_
      refine ex_block_normal ?_
      refine ex_then ?_
      refine cod_region ?_
      refine lst_move rfl rfl ?_
      refine lst_int rfl rfl rfl (fun w => bin_add w (wrap_i64' _ (by omega) (by omega))) ?_
      refine lst_assign rfl rfl ?_
      refine lst_nil ?_
      refine ex_round (k + 1) (by omega) (by (try dsimp only); omega) sbn sbl
    · skip
      rw [initN_far hk6 hc1]
      refine cod_skip ?_
      refine ex_block_normal ?_
      refine ex_then ?_
      refine cod_region ?_
      refine lst_move rfl rfl ?_
      refine lst_int rfl rfl rfl (fun w => bin_add w (wrap_i64' _ (by omega) (by omega))) ?_
      refine lst_assign rfl rfl ?_
      refine lst_nil ?_
      refine ex_round (k + 1) (by omega) (by (try dsimp only); omega) sbn sbl
  · skip
    obtain rfl : k = 64 := by omega
    refine cod_exit ?_
    refine ex_then_exit ?_
    refine ex_then_exit ?_
    refine ex_block_exit ?_
    refine ex_then ?_
    refine cod_seq ?_
    refine cod_seq ?_
    refine cod_region ?_
    refine lst_assign rfl rfl ?_
    refine lst_nil ?_
    refine ex_then ?_
    refine cod_block ?_
    refine cod_loop (G := Nat × List Nat) (fun g => g.1 ≤ 64 ∧ RI ags used p g.1 0 0 g.2) (fun g => 64 - g.1) (fun g => [(0, .slice A ags.length c), (1, .int .i64 (p : Int)), (2, .int .i64 sh), (7, .slice (some ⟨bL, 0, none⟩) 64 64), (9, .int .i64 (g.1 : Int))]) (fun g => [.row 3 1 (some ⟨bL, 0, none⟩) 64 64 (ints (g.2))]) (0, initN p 64) ⟨Nat.zero_le _, RI.start⟩ sbn sbl ?_
    rintro ⟨r, L⟩ ⟨hr, hI⟩
    (try dsimp only at hr hI ⊢)
    refine cod_seq ?_
    refine cod_seq ?_
    refine cod_region ?_
    refine lst_move rfl rfl ?_
    refine lst_int rfl rfl rfl bin_leq ?_
    refine lst_nil ?_
    refine ex_then ?_
    refine cod_cond_dec rfl (fun hc2 => ?_) (fun hc2 => ?_)
    · skip
      refine cod_skip ?_
      refine ex_then ?_
      refine cod_seq ?_
      refine cod_block ?_
      refine cod_seq ?_
      refine cod_region ?_
      refine lst_assign rfl rfl ?_
      refine lst_nil ?_
      refine ex_then ?_
      refine cod_block ?_
      refine cod_loop (G := Nat × List Nat) (fun g => g.1 ≤ 64 ∧ RI ags used p r g.1 0 g.2) (fun g => 64 - g.1) (fun g => [(0, .slice A ags.length c), (1, .int .i64 (p : Int)), (2, .int .i64 sh), (7, .slice (some ⟨bL, 0, none⟩) 64 64), (9, .int .i64 (r : Int)), (10, .int .i64 (g.1 : Int))]) (fun g => [.row 3 1 (some ⟨bL, 0, none⟩) 64 64 (ints (g.2))]) (0, L) ⟨Nat.zero_le _, hI⟩ sbn sbl ?_
      rintro ⟨m, L⟩ ⟨hm, hI⟩
      (try dsimp only at hm hI ⊢)
      refine cod_seq ?_
      refine cod_seq ?_
      refine cod_region ?_
      refine lst_move rfl rfl ?_
      refine lst_int rfl rfl rfl bin_leq ?_
      refine lst_nil ?_
      refine ex_then ?_
      refine cod_cond_dec rfl (fun hc3 => ?_) (fun hc3 => ?_)
      · skip
        have hm6 : m < 64 := by omega
        refine cod_skip ?_
        refine ex_then ?_
        refine cod_seq ?_
        refine cod_block ?_
        refine cod_seq ?_
        refine cod_region ?_
        refine lst_assign rfl rfl ?_
        refine lst_nil ?_
        refine ex_then ?_
        refine cod_block ?_
        refine cod_loop (G := Nat × List Nat) (fun g => g.1 ≤ ags.length ∧ RI ags used p r m g.1 g.2) (fun g => ags.length - g.1) (fun g => [(0, .slice A ags.length c), (1, .int .i64 (p : Int)), (2, .int .i64 sh), (7, .slice (some ⟨bL, 0, none⟩) 64 64), (9, .int .i64 (r : Int)), (10, .int .i64 (m : Int)), (11, .int .i64 (g.1 : Int))]) (fun g => [.row 3 1 (some ⟨bL, 0, none⟩) 64 64 (ints (g.2))]) (0, L) ⟨Nat.zero_le _, hI⟩ sbn sbl ?_
        rintro ⟨i, L⟩ ⟨hi, hI⟩
        (try dsimp only at hi hI ⊢)
        refine cod_seq ?_
        refine cod_seq ?_
        refine cod_region ?_
        refine lst_move rfl rfl ?_
        refine lst_move rfl rfl ?_
        refine lst_len rfl rfl Tryd.underlying22 ?_
        refine lst_int rfl rfl rfl bin_lss ?_
        refine lst_nil ?_
        refine ex_then ?_
        refine cod_cond_dec rfl (fun hc4 => ?_) (fun hc4 => ?_)
        · skip
          have hi0 : i < ags.length := by omega
          have hk' : i < ags.length := by omega
          obtain ⟨b, o, rfl, hb, hcell⟩ := hA (by omega)
          obtain ⟨x, hx⟩ : ∃ x, ags[i]? = some x := ⟨_, List.getElem?_eq_getElem hk'⟩
          have hxo : x.ok := hok.2 x (List.mem_of_getElem? hx)
          have hxd : ags.getD i default = x := by rw [List.getD_eq_getElem?_getD, hx]; rfl
          have h4 := hok.1
          have hlen := hI.len
          have hg6 : putN x m < 64 := putN_lt hxo hm6
          refine cod_skip ?_
          refine ex_then ?_
          refine cod_seq ?_
          refine cod_block ?_
          refine cod_seq ?_
          refine cod_region ?_
          refine lst_cut1 11 51 (.bool (decide ((i : Int) ≠ sh) && mayN x m)) ?_ ?_
          · skip
            refine lst_move rfl rfl ?_
            refine lst_move rfl rfl ?_
            refine lst_int rfl rfl rfl bin_neq ?_
            refine lst_move rfl rfl ?_
            refine lst_split_bool (t := 44) rfl (fun hg44 => ?_) (fun hg44 => ?_)
            · skip
              refine lst_on rfl rfl ?_
              refine lst_move rfl rfl ?_
              refine lst_on rfl rfl ?_
              refine lst_move rfl rfl ?_
              refine lst_on rfl rfl ?_
              refine lst_index (j := i) rfl rfl rfl Tryd.underlying22 F.ti24 rfl hk' ?_
              refine lst_on rfl rfl ?_
              refine lst_loadN_at (l := [.int .i64 (x.needs : Int), .int .i64 (x.no : Int), .int .i64 (x.takes : Int), .int .i64 (x.leaves : Int), .int .i64 (x.cost : Int)]) rfl rfl F.agg24 F.ti24 rfl (fun a w ha j u hu => ha.old (hcell i x hx j u hu) hb) ?_
              refine lst_on rfl rfl ?_
              refine lst_move rfl rfl ?_
              refine lst_on rfl rfl ?_
              refine lst_fn0 (vs := [_, _]) rfl rfl F.ent97 (fun a w ha => rmay_c x m hxo hm6 w) ?_
              refine lst_pick_true rfl rfl rfl ?_
              refine lst_nil ?_
              exact ex_cut (.cons (by simp_all [look]) sbn) sbl
            · skip
              refine lst_off rfl rfl rfl ?_
              refine lst_off rfl rfl rfl ?_
              refine lst_off rfl rfl rfl ?_
              refine lst_off rfl rfl rfl ?_
              refine lst_off rfl rfl rfl ?_
              refine lst_off rfl rfl rfl ?_
              refine lst_pick_false rfl rfl rfl ?_
              refine lst_nil ?_
              exact ex_cut (.cons (by simp_all [look]) sbn) sbl
          refine lst_nil ?_
          refine ex_then ?_
          refine cod_cond_bool rfl (fun hc5 => ?_) (fun hc5 => ?_)
          · skip
            rw [Bool.and_eq_true, decide_eq_true_eq] at hc5
            have hcan : i ∈ canTo ags used m ags.length := can_mem.2 ⟨hk', (hU i hk').2 hc5.1, by rw [hxd]; exact hc5.2⟩
            obtain ⟨n1, hn1⟩ : ∃ n, L[m]? = some n := ⟨_, List.getElem?_eq_getElem (by omega)⟩
            obtain ⟨n2, hn2⟩ : ∃ n, L[putN x m]? = some n := ⟨_, List.getElem?_eq_getElem (by omega)⟩
            have hd1 : L.getD m 0 = n1 := by rw [List.getD_eq_getElem?_getD, hn1]; rfl
            have hd2 : L.getD (putN x m) 0 = n2 := by rw [List.getD_eq_getElem?_getD, hn2]; rfl
            have hn2f : n2 ≤ farN := by rw [← hd2]; exact hI.le _ hg6
            have hI2 := hI.put hok hm6 hcan
            rw [hxd, hd1, hd2] at hI2
            unfold farN at hn2f
            refine any_begin [.r (some ⟨bL, 0, none⟩)] F.follows 19 rfl [false, false, false, false, false, false, false, false, false, false, false, false, false, false, false, false, false, false, false] rfl ?_
            refine any_tk 0 rfl rfl rfl (yld_move rfl) ?_
            refine any_tk 1 rfl rfl rfl (yld_move rfl) ?_
            refine any_tk 2 rfl rfl rfl (yld_move rfl) ?_
            refine any_tk 3 rfl rfl rfl (yld_move rfl) ?_
            refine any_tk 4 rfl rfl rfl (yld_index (j := m) rfl rfl Tryd.underlying25 F.ti3 rfl hm6) ?_
            refine any_tk 6 rfl rfl rfl (yld_move rfl) ?_
            refine any_tk 7 rfl rfl rfl (yld_move rfl) ?_
            refine any_tk 8 rfl rfl rfl (yld_move rfl) ?_
            refine any_tk 9 rfl rfl rfl (yld_index (j := i) rfl rfl Tryd.underlying22 F.ti24 rfl hk') ?_
            refine any_tk 10 rfl rfl rfl (yld_loadN_at (l := [.int .i64 (x.needs : Int), .int .i64 (x.no : Int), .int .i64 (x.takes : Int), .int .i64 (x.leaves : Int), .int .i64 (x.cost : Int)]) rfl F.agg24 F.ti24 rfl (fun a w ha j u hu => ha.old (hcell i x hx j u hu) hb)) ?_
            refine any_tk 11 rfl rfl rfl (yld_move rfl) ?_
            refine any_two 5 12 (by kernel_rfl) rfl rfl rfl rfl ?_ ?_
            · skip
              refine lst_load_at (v := .int .i64 (n1 : Int)) rfl rfl F.one3 (fun a w ha => row_cell ha (InR.mem (A := (some ⟨bL, 0, none⟩))) rfl (by rw [Nat.zero_add]; exact ints_get hn1)) ?_
              refine lst_nil ?_
              refine any_next sbl ?_
              refine any_one 12 (by kernel_rfl) rfl rfl ?_
              refine lst_fn0 (vs := [_, _]) rfl rfl F.ent94 (fun a w ha => rafter_c x m hxo hm6 w) ?_
              refine lst_nil ?_
              refine any_next sbl ?_
              refine any_tk 13 rfl rfl rfl (yld_index (j := putN x m) rfl rfl Tryd.underlying25 F.ti3 rfl hg6) ?_
              refine any_one 14 (by kernel_rfl) rfl rfl ?_
              refine lst_load_at (v := .int .i64 (n2 : Int)) rfl rfl F.one3 (fun a w ha => row_cell ha (InR.mem (A := (some ⟨bL, 0, none⟩))) rfl (by rw [Nat.zero_add]; exact ints_get hn2)) ?_
              refine lst_nil ?_
              refine any_next sbl ?_
              refine any_tk 15 rfl rfl rfl (yld_int (v := .int .i64 (1 + (n2 : Int))) rfl rfl (fun w => bin_add w (wrap_i64' _ (by omega) (by omega)))) ?_
              refine any_one 16 (by kernel_rfl) rfl rfl ?_
              refine lst_min rfl rfl rfl ?_
              rw [show (if 1 + (n2 : Int) < ((n1 : Nat) : Int) then 1 + (n2 : Int) else ((n1 : Nat) : Int)) = ((min n1 (1 + n2) : Nat) : Int) from by rw [Nat.min_def]; split <;> split <;> omega]
              refine lst_nil ?_
              refine any_next sbl ?_
              refine any_tk 17 rfl rfl rfl (yld_index (j := m) rfl rfl Tryd.underlying25 F.ti3 rfl hm6) ?_
              refine any_one 18 (by kernel_rfl) rfl rfl ?_
              refine lst_store_row (N := 64) (xs := ints (L)) (out := ints (L.set m (min n1 (1 + n2)))) rfl rfl F.ti3 rfl (by rw [Nat.zero_add, Nat.mul_one]; exact splice_ints (by omega)) (by repeat (first | exact Upd.head _ | apply Upd.tail)) ?_
              refine lst_nil ?_
              refine any_next sbl ?_
              refine any_done rfl (by kernel_rfl) ?_
              refine ex_block_normal ?_
              refine ex_then ?_
              refine cod_region ?_
              refine lst_move rfl rfl ?_
              refine lst_int rfl rfl rfl (fun w => bin_add w (wrap_i64' _ (by omega) (by omega))) ?_
              refine lst_assign rfl rfl ?_
              refine lst_nil ?_
              refine ex_round (i + 1, L.set m (min n1 (1 + n2))) ⟨by omega, hI2⟩ (by (try dsimp only); omega) sbn sbl
            · skip
              refine lst_fn0 (vs := [_, _]) rfl rfl F.ent94 (fun a w ha => rafter_c x m hxo hm6 w) ?_
              refine lst_nil ?_
              refine any_next sbl ?_
              refine any_tk 13 rfl rfl rfl (yld_index (j := putN x m) rfl rfl Tryd.underlying25 F.ti3 rfl hg6) ?_
              refine any_two 5 14 (by kernel_rfl) rfl rfl rfl rfl ?_ ?_
              · skip
                refine lst_load_at (v := .int .i64 (n1 : Int)) rfl rfl F.one3 (fun a w ha => row_cell ha (InR.mem (A := (some ⟨bL, 0, none⟩))) rfl (by rw [Nat.zero_add]; exact ints_get hn1)) ?_
                refine lst_nil ?_
                refine any_next sbl ?_
                refine any_one 14 (by kernel_rfl) rfl rfl ?_
                refine lst_load_at (v := .int .i64 (n2 : Int)) rfl rfl F.one3 (fun a w ha => row_cell ha (InR.mem (A := (some ⟨bL, 0, none⟩))) rfl (by rw [Nat.zero_add]; exact ints_get hn2)) ?_
                refine lst_nil ?_
                refine any_next sbl ?_
                refine any_tk 15 rfl rfl rfl (yld_int (v := .int .i64 (1 + (n2 : Int))) rfl rfl (fun w => bin_add w (wrap_i64' _ (by omega) (by omega)))) ?_
                refine any_one 16 (by kernel_rfl) rfl rfl ?_
                refine lst_min rfl rfl rfl ?_
                rw [show (if 1 + (n2 : Int) < ((n1 : Nat) : Int) then 1 + (n2 : Int) else ((n1 : Nat) : Int)) = ((min n1 (1 + n2) : Nat) : Int) from by rw [Nat.min_def]; split <;> split <;> omega]
                refine lst_nil ?_
                refine any_next sbl ?_
                refine any_tk 17 rfl rfl rfl (yld_index (j := m) rfl rfl Tryd.underlying25 F.ti3 rfl hm6) ?_
                refine any_one 18 (by kernel_rfl) rfl rfl ?_
                refine lst_store_row (N := 64) (xs := ints (L)) (out := ints (L.set m (min n1 (1 + n2)))) rfl rfl F.ti3 rfl (by rw [Nat.zero_add, Nat.mul_one]; exact splice_ints (by omega)) (by repeat (first | exact Upd.head _ | apply Upd.tail)) ?_
                refine lst_nil ?_
                refine any_next sbl ?_
                refine any_done rfl (by kernel_rfl) ?_
                refine ex_block_normal ?_
                refine ex_then ?_
                refine cod_region ?_
                refine lst_move rfl rfl ?_
                refine lst_int rfl rfl rfl (fun w => bin_add w (wrap_i64' _ (by omega) (by omega))) ?_
                refine lst_assign rfl rfl ?_
                refine lst_nil ?_
                refine ex_round (i + 1, L.set m (min n1 (1 + n2))) ⟨by omega, hI2⟩ (by (try dsimp only); omega) sbn sbl
              · skip
                refine lst_load_at (v := .int .i64 (n2 : Int)) rfl rfl F.one3 (fun a w ha => row_cell ha (InR.mem (A := (some ⟨bL, 0, none⟩))) rfl (by rw [Nat.zero_add]; exact ints_get hn2)) ?_
                refine lst_nil ?_
                refine any_next sbl ?_
                refine any_tk 15 rfl rfl rfl (yld_int (v := .int .i64 (1 + (n2 : Int))) rfl rfl (fun w => bin_add w (wrap_i64' _ (by omega) (by omega)))) ?_
                refine any_one 5 (by kernel_rfl) rfl rfl ?_
                refine lst_load_at (v := .int .i64 (n1 : Int)) rfl rfl F.one3 (fun a w ha => row_cell ha (InR.mem (A := (some ⟨bL, 0, none⟩))) rfl (by rw [Nat.zero_add]; exact ints_get hn1)) ?_
                refine lst_nil ?_
                refine any_next sbl ?_
                refine any_one 16 (by kernel_rfl) rfl rfl ?_
                refine lst_min rfl rfl rfl ?_
                rw [show (if 1 + (n2 : Int) < ((n1 : Nat) : Int) then 1 + (n2 : Int) else ((n1 : Nat) : Int)) = ((min n1 (1 + n2) : Nat) : Int) from by rw [Nat.min_def]; split <;> split <;> omega]
                refine lst_nil ?_
                refine any_next sbl ?_
                refine any_tk 17 rfl rfl rfl (yld_index (j := m) rfl rfl Tryd.underlying25 F.ti3 rfl hm6) ?_
                refine any_one 18 (by kernel_rfl) rfl rfl ?_
                refine lst_store_row (N := 64) (xs := ints (L)) (out := ints (L.set m (min n1 (1 + n2)))) rfl rfl F.ti3 rfl (by rw [Nat.zero_add, Nat.mul_one]; exact splice_ints (by omega)) (by repeat (first | exact Upd.head _ | apply Upd.tail)) ?_
                refine lst_nil ?_
                refine any_next sbl ?_
                refine any_done rfl (by kernel_rfl) ?_
                refine ex_block_normal ?_
                refine ex_then ?_
                refine cod_region ?_
                refine lst_move rfl rfl ?_
                refine lst_int rfl rfl rfl (fun w => bin_add w (wrap_i64' _ (by omega) (by omega))) ?_
                refine lst_assign rfl rfl ?_
                refine lst_nil ?_
                refine ex_round (i + 1, L.set m (min n1 (1 + n2))) ⟨by omega, hI2⟩ (by (try dsimp only); omega) sbn sbl
          · skip
            have hno : i ∉ canTo ags used m ags.length := fun h => by
              have h' := can_mem.1 h
              have h1 := (hU i hk').1 h'.2.1
              have h2 := h'.2.2
              rw [hxd] at h2
              rw [decide_eq_true h1, h2] at hc5
              cases hc5
            have hI2 := hI.skip hno
            refine cod_skip ?_
            refine ex_block_normal ?_
            refine ex_then ?_
            refine cod_region ?_
            refine lst_move rfl rfl ?_
            refine lst_int rfl rfl rfl (fun w => bin_add w (wrap_i64' _ (by omega) (by omega))) ?_
            refine lst_assign rfl rfl ?_
            refine lst_nil ?_
            refine ex_round (i + 1, L) ⟨by omega, hI2⟩ (by (try dsimp only); omega) sbn sbl
        · skip
          obtain rfl : i = ags.length := by omega
          have hI2 := hI.next hm6
          refine cod_exit ?_
          refine ex_then_exit ?_
          refine ex_then_exit ?_
          refine ex_block_exit ?_
          refine ex_block_normal ?_
          refine ex_then ?_
          refine cod_region ?_
          refine lst_move rfl rfl ?_
          refine lst_int rfl rfl rfl (fun w => bin_add w (wrap_i64' _ (by omega) (by omega))) ?_
          refine lst_assign rfl rfl ?_
          refine lst_nil ?_
          refine ex_round (m + 1, L) ⟨by omega, hI2⟩ (by (try dsimp only); omega) sbn sbl
      · skip
        obtain rfl : m = 64 := by omega
        have hI2 := hI.round
        refine cod_exit ?_
        refine ex_then_exit ?_
        refine ex_then_exit ?_
        refine ex_block_exit ?_
        refine ex_block_normal ?_
        refine ex_then ?_
        refine cod_region ?_
        refine lst_move rfl rfl ?_
        refine lst_int rfl rfl rfl (fun w => bin_add w (wrap_i64' _ (by omega) (by omega))) ?_
        refine lst_assign rfl rfl ?_
        refine lst_nil ?_
        refine ex_round (r + 1, L) ⟨by omega, hI2⟩ (by (try dsimp only); omega) sbn sbl
    · skip
      obtain rfl : r = 64 := by omega
      have hlen := hI.len
      refine cod_exit ?_
      refine ex_then_exit ?_
      refine ex_then_exit ?_
      refine ex_block_exit ?_
      refine ex_then ?_
      refine cod_seq ?_
      refine cod_seq ?_
      refine cod_region ?_
      refine lst_assign rfl rfl ?_
      refine lst_nil ?_
      refine ex_then ?_
      refine cod_block ?_
      refine cod_loop (G := Nat) (fun k => k ≤ 64) (fun k => 64 - k) (fun k => [(0, .slice A ags.length c), (1, .int .i64 (p : Int)), (2, .int .i64 sh), (7, .slice (some ⟨bL, 0, none⟩) 64 64), (12, .int .i64 (k : Int))]) (fun k => [.row 3 1 (some ⟨bL, 0, none⟩) 64 64 (ints (L))]) 0 (Nat.zero_le _) sbn sbl ?_
      intro k hk
      (try dsimp only at hk ⊢)
      refine cod_seq ?_
      refine cod_seq ?_
      refine cod_region ?_
      refine lst_move rfl rfl ?_
      refine lst_int rfl rfl rfl bin_leq ?_
      refine lst_nil ?_
      refine ex_then ?_
      refine cod_cond_dec rfl (fun hc6 => ?_) (fun hc6 => ?_)
      · skip
        have hk6 : k < 64 := by omega
        obtain ⟨n1, hn1⟩ : ∃ n, L[k]? = some n := ⟨_, List.getElem?_eq_getElem (by omega)⟩
        have hd1 : L.getD k 0 = n1 := by rw [List.getD_eq_getElem?_getD, hn1]; rfl
        have hsame := hI.same hk6
        rw [hd1] at hsame
        refine cod_skip ?_
        refine ex_then ?_
        refine cod_seq ?_
        refine cod_block ?_
        refine cod_region ?_
        refine lst_move rfl rfl ?_
        refine lst_move rfl rfl ?_
        refine lst_move rfl rfl ?_
        refine lst_move rfl rfl ?_
        refine lst_index (j := k) rfl rfl rfl Tryd.underlying25 F.ti3 rfl hk6 ?_
        refine lst_load_at (v := .int .i64 (n1 : Int)) rfl rfl F.one3 (fun a w ha => row_cell ha (InR.mem (A := (some ⟨bL, 0, none⟩))) rfl (by rw [Nat.zero_add]; exact ints_get hn1)) ?_
        refine lst_min rfl rfl rfl ?_
        rw [show (if (1048576 : Int) < ((n1 : Nat) : Int) then (1048576 : Int) else ((n1 : Nat) : Int)) = ((min n1 farN : Nat) : Int) from by rw [Nat.min_def]; unfold farN; split <;> split <;> omega]
        refine lst_index (j := k) rfl rfl rfl Tryd.underlying25 F.ti3 rfl hk6 ?_
        refine lst_store_row (N := 64) (xs := ints (L)) (out := ints (L.set k (min n1 farN))) rfl rfl F.ti3 rfl (by rw [Nat.zero_add, Nat.mul_one]; exact splice_ints (by omega)) (by repeat (first | exact Upd.head _ | apply Upd.tail)) ?_
        rw [hsame]
        refine lst_nil ?_
        refine ex_block_normal ?_
        refine ex_then ?_
        refine cod_region ?_
        refine lst_move rfl rfl ?_
        refine lst_int rfl rfl rfl (fun w => bin_add w (wrap_i64' _ (by omega) (by omega))) ?_
        refine lst_assign rfl rfl ?_
        refine lst_nil ?_
        refine ex_round (k + 1) (by omega) (by (try dsimp only); omega) sbn sbl
      · skip
        refine cod_exit ?_
        refine ex_then_exit ?_
        refine ex_then_exit ?_
        refine ex_block_exit ?_
        refine ex_then ?_
        refine cod_seq ?_
        refine cod_region ?_
        refine lst_move rfl rfl ?_
        refine lst_assign rfl rfl ?_
        refine lst_nil ?_
        refine ex_then ?_
        refine cod_ret ?_
        exact ex_ret rfl (fun a w ha => res_one rfl rfl ha) (fun a w ha => ⟨L, bL, hI.dst hok, rfl, ha.grown sbl⟩)

end Go.Proofs.YtofkhehcnfiopaaDoor.N
namespace Go.Proofs.YtofkhehcnfiopaaDoor.N
open Go Go.RowKit Go.Proofs
set_option linter.unusedSectionVars false
variable [I : Sys]
theorem F.ent103 : Enters Tryd.prog 103 := enters_of Tryd.func103 rfl (by kernel_rfl)
end Go.Proofs.YtofkhehcnfiopaaDoor.N
namespace Go.Proofs.YtofkhehcnfiopaaDoor.N
open Go Go.RowKit Go.Proofs
set_option linter.unusedSectionVars false
variable [I : Sys]
/-! What is asked of whatever agents, a melt and faults: the program and the reference answer alike. -/
def twoR (R : List Ag → Nat → Nat → List Nat × Nat) (l : List RA) (m p : Int) : List Nat × Nat := if askedR l m p = 0 then R (agsOf l) p.toNat m.toNat else ([], askedR l m p)
theorem twoR_ok {R : List Ag → Nat → Nat → List Nat × Nat} {l : List RA} {f p : Nat} (h : askedR l (f : Int) (p : Int) = 0) : twoR R l (f : Int) (p : Int) = R (agsOf l) p f := by
  unfold twoR
  rw [if_pos h, Int.toNat_natCast, Int.toNat_natCast]
theorem twoR_bad {R : List Ag → Nat → Nat → List Nat × Nat} {l : List RA} {m p : Int} {E : Nat} (h : askedR l m p = E) (hE : E ≠ 0) : twoR R l m p = ([], E) := by
  unfold twoR
  rw [h, if_neg hE]
theorem prog_two {k : FuncId} {A : Option Addr} {c : Nat} (R : List Ag → Nat → Nat → List Nat × Nat)
    (hok : ∀ ags, Oks ags → ∀ f p : Nat, f < 64 → p < 64 → ∀ w, RdL Ag.cells 5 w A ags → Calls Tryd.prog k #[.slice A ags.length c, .int .i64 (f : Int), .int .i64 (p : Int)] w (Says w (R ags p f).1 (R ags p f).2))
    (hbad : ∀ l, checkR l ≠ 0 → ∀ (n0 n1 : Int) w, RdL RA.cells 5 w A l → Calls Tryd.prog k #[.slice A l.length c, .int .i64 n0, .int .i64 n1] w fun e w' => e = .returned (.tuple #[.slice none 0 0, .int .i64 ((checkR l : Nat) : Int)]) ∧ Grew w w' [])
    (hbad0 : ∀ ags, Oks ags → ∀ n0 : Int, inB n0 0 63 = false → ∀ (n1 : Int) w, RdL Ag.cells 5 w A ags → Calls Tryd.prog k #[.slice A ags.length c, .int .i64 n0, .int .i64 n1] w fun e w' => e = .returned (.tuple #[.slice none 0 0, .int .i64 1]) ∧ Grew w w' [])
    (hbad1 : ∀ ags, Oks ags → ∀ n0 : Nat, n0 < 64 → ∀ n1 : Int, inB n1 0 63 = false → ∀ w, RdL Ag.cells 5 w A ags → Calls Tryd.prog k #[.slice A ags.length c, .int .i64 (n0 : Int), .int .i64 n1] w fun e w' => e = .returned (.tuple #[.slice none 0 0, .int .i64 1]) ∧ Grew w w' [])
    (l : List RA) (m p : Int) (w : World) (hA : RdL RA.cells 5 w A l) : Calls Tryd.prog k #[.slice A l.length c, .int .i64 m, .int .i64 p] w (Says w (twoR R l m p).1 (twoR R l m p).2) := by
  by_cases hc : checkR l = 0
  · cases hb : inB m 0 63 with
    | true =>
      obtain ⟨f, rfl, hf⟩ := nat_of_inB hb
      cases hq : inB p 0 63 with
      | true =>
        obtain ⟨q, rfl, hq'⟩ := nat_of_inB hq
        have h0 : askedR l (f : Int) (q : Int) = 0 := by unfold askedR; rw [if_neg (by simpa using hc), if_pos (by rw [hb, hq]; rfl)]
        have h := hok (agsOf l) (checkR_oks hc) f q hf hq' w (hA.ag hc)
        rw [agsOf_len] at h
        rw [twoR_ok h0]
        exact h
      | false =>
        have h1 := askedR_one (m := (f : Int)) (p := p) hc (.inr hq)
        have h := hbad1 (agsOf l) (checkR_oks hc) f hf p hq w (hA.ag hc)
        rw [agsOf_len] at h
        rw [twoR_bad h1 (by decide)]
        exact h.mono fun e w' h => Says.nil h
    | false =>
      have h1 := askedR_one (p := p) hc (.inl hb)
      have h := hbad0 (agsOf l) (checkR_oks hc) m hb p w (hA.ag hc)
      rw [agsOf_len] at h
      rw [twoR_bad h1 (by decide)]
      exact h.mono fun e w' h => Says.nil h
  · have h1 := askedR_check (m := m) (p := p) hc
    rw [twoR_bad h1 hc]
    exact (hbad l hc m p w hA).mono fun e w' h => Says.nil h
theorem ref_two {k : FuncId} {A : Option Addr} {c : Nat} (R : List Ag → Nat → Nat → List Nat × Nat)
    (hok : ∀ ags, Oks ags → ∀ f p : Nat, f < 64 → p < 64 → ∀ w, RdL Ag.cells 5 w A ags → Calls Tryd.prog k #[.slice A ags.length c, .int .i64 (f : Int), .int .i64 (p : Int)] w (Says w (R ags p f).1 (R ags p f).2))
    (hbad : ∀ (l : List RA) (m p : Int), askedR l m p ≠ 0 → ∀ w, RdL RA.cells 5 w A l → Calls Tryd.prog k #[.slice A l.length c, .int .i64 m, .int .i64 p] w fun e w' => e = .returned (.tuple #[.slice none 0 0, .int .i64 ((askedR l m p : Nat) : Int)]) ∧ Grew w w' [])
    (l : List RA) (m p : Int) (w : World) (hA : RdL RA.cells 5 w A l) : Calls Tryd.prog k #[.slice A l.length c, .int .i64 m, .int .i64 p] w (Says w (twoR R l m p).1 (twoR R l m p).2) := by
  by_cases h0 : askedR l m p = 0
  · obtain ⟨hc, hb, hq⟩ := askedR_zero h0
    obtain ⟨f, rfl, hf⟩ := nat_of_inB hb
    obtain ⟨q, rfl, hq'⟩ := nat_of_inB hq
    have h := hok (agsOf l) (checkR_oks hc) f q hf hq' w (hA.ag hc)
    rw [agsOf_len] at h
    rw [twoR_ok h0]
    exact h
  · rw [twoR_bad rfl h0]
    exact (hbad l m p h0 w hA).mono fun e w' h => Says.nil h
end Go.Proofs.YtofkhehcnfiopaaDoor.N
namespace Go.Proofs.YtofkhehcnfiopaaDoor.N
open Go Go.RowKit Go.Proofs
set_option linter.unusedSectionVars false
variable [I : Sys]
theorem three_ex {l m n : Int} {k : Nat} (hk : k < 3) : ∃ x, ([.int .i64 l, .int .i64 m, .int .i64 n] : List Value)[k]? = some (.int .i64 x) := by
  rcases (show k = 0 ∨ k = 1 ∨ k = 2 by omega) with rfl | rfl | rfl
  · exact ⟨l, rfl⟩
  · exact ⟨m, rfl⟩
  · exact ⟨n, rfl⟩
end Go.Proofs.YtofkhehcnfiopaaDoor.N
namespace Go.Proofs.YtofkhehcnfiopaaDoor.N
open Go Go.RowKit Go.Proofs
set_option linter.unusedSectionVars false
variable [I : Sys]
/-! The first list, the shorter ones first, that does something. -/
def FS (n : Nat) (P : List Nat → Prop) (K : Nat) : Option (List Nat) → Prop
  | some v => P v ∧ Wd n v ∧ v.length ≤ K ∧ ∀ u, Wd n u → u.length ≤ K → P u → code n v ≤ code n u
  | none => ∀ u, Wd n u → u.length ≤ K → ¬ P u
theorem FS.unique {n K : Nat} {P : List Nat → Prop} {r s : Option (List Nat)} (h : FS n P K r) (h' : FS n P K s) : r = s := by
  cases r with
  | none =>
    cases s with
    | none => rfl
    | some v => exact absurd h'.1 (h v h'.2.1 h'.2.2.1)
  | some v =>
    cases s with
    | none => exact absurd h.1 (h' v h.2.1 h.2.2.1)
    | some w =>
      have h1 := h.2.2.2 w h'.2.1 h'.2.2.1 h'.1
      have h2 := h'.2.2.2 v h.2.1 h.2.2.1 h.1
      exact congrArg some (code_inj n _ v w rfl h.2.1 h'.2.1 (by omega))
/-- What a walk through all lists has seen. -/
structure SeenS (n : Nat) (P : List Nat → Prop) (k i : Nat) : Prop where
  less : ∀ u, Wd n u → u.length < k → ¬ P u
  now : ∀ j u, j < i → (strs n k)[j]? = some u → ¬ P u
theorem SeenS.start {n : Nat} {P : List Nat → Prop} : SeenS n P 0 0 := ⟨fun _ _ h => absurd h (Nat.not_lt_zero _), fun _ _ h => absurd h (Nat.not_lt_zero _)⟩
theorem SeenS.next {n k i : Nat} {P : List Nat → Prop} (h : SeenS n P k i) {v : List Nat} (hv : (strs n k)[i]? = some v) (hp : ¬ P v) : SeenS n P k (i + 1) :=
  ⟨h.less, fun j u hj hu => by
    rcases Nat.lt_succ_iff_lt_or_eq.1 hj with h1 | rfl
    · exact h.now j u h1 hu
    · rw [hv] at hu
      cases hu
      exact hp⟩
theorem SeenS.round {n k i : Nat} {P : List Nat → Prop} (h : SeenS n P k i) (hi : (strs n k).length ≤ i) : SeenS n P (k + 1) 0 :=
  ⟨fun u hu hl => by
    rcases Nat.lt_succ_iff_lt_or_eq.1 hl with h1 | h1
    · exact h.less u hu h1
    · obtain ⟨j, hj⟩ := List.getElem?_of_mem (strs_all hu h1)
      exact h.now j u (Nat.lt_of_lt_of_le (List.getElem?_eq_some_iff.1 hj).1 hi) hj, fun _ _ h => absurd h (Nat.not_lt_zero _)⟩
theorem SeenS.none_ {n K : Nat} {P : List Nat → Prop} (h : SeenS n P (K + 1) 0) : FS n P K none := fun u hu hl => h.less u hu (by omega)
theorem SeenS.found {n k i K : Nat} {P : List Nat → Prop} (h : SeenS n P k i) (hk : k ≤ K) {v : List Nat} (hv : (strs n k)[i]? = some v) (hp : P v) : FS n P K (some v) := by
  obtain ⟨hvl, hvw⟩ := strs_mem (List.mem_of_getElem? hv)
  refine ⟨hp, hvw, by omega, fun u hu _ hpu => ?_⟩
  rcases Nat.lt_trichotomy u.length k with hl | hl | hl
  · exact absurd hpu (h.less u hu hl)
  · obtain ⟨j, hj⟩ := List.getElem?_of_mem (strs_all hu hl)
    rcases Nat.lt_or_ge j i with h2 | h2
    · exact absurd hpu (h.now j u h2 hj)
    · exact strs_le_code hv hj h2
  · exact Nat.le_of_lt (code_lt_of_len n u.length u v rfl (by omega) hvw)
/-! Teams. -/
end Go.Proofs.YtofkhehcnfiopaaDoor.N
namespace Go.Proofs.YtofkhehcnfiopaaDoor.N
open Go Go.RowKit Go.Proofs
set_option linter.unusedSectionVars false
variable [I : Sys]
theorem Upd.same {r r' : Res} {l l' : List Res} (h : Upd r r' l l') (e : r' = r) : l' = l := by
  induction h with
  | head l => rw [e]
  | tail x _ ih => rw [ih]
section
variable {C : Ctx} {fr : List (Nat × Value)} {hp : List Res} {ops : Array Oper} {Q : Exit → Act → World → Prop} {rest : List Oper} {d : Nat} {ty : TypeId} {pos : String} {after : Array Edge}
end
/-! Lists with the first agent ahead: the same lists. -/
end Go.Proofs.YtofkhehcnfiopaaDoor.N
namespace Go.Proofs.YtofkhehcnfiopaaDoor.N
open Go Go.RowKit Go.Proofs
set_option linter.unusedSectionVars false
variable [I : Sys]
/-! Several melts at once, and two told apart: whatever agents and numbers. -/
theorem twoR_le5 {R : List Ag → Nat → Nat → List Nat × Nat} {N : Nat} (hR : ∀ ags p f, (R ags p f).1.length ≤ N) (l : List RA) (m p : Int) : (twoR R l m p).1.length ≤ N := by
  unfold twoR
  split
  · exact hR _ _ _
  · exact Nat.zero_le _
end Go.Proofs.YtofkhehcnfiopaaDoor.N
namespace Go.Proofs.YtofkhehcnfiopaaDoor.N
open Go Go.RowKit Go.Proofs
set_option linter.unusedSectionVars false
variable [I : Sys]
/-! The melt that takes longest. -/
def bestL (L : List Nat) : Nat → Nat × Nat
  | 0 => (0, 0)
  | k + 1 => if L.getD k 0 < farN ∧ (bestL L k).2 < L.getD k 0 then (k, L.getD k 0) else bestL L k
theorem Dst.unique {ags : List Ag} {used p : Nat} {L M : List Nat} (h : Dst ags used p L) (h' : Dst ags used p M) : L = M := by
  apply List.ext_getElem?
  intro f
  by_cases hf : f < 64
  · have e : L.getD f 0 = M.getD f 0 := by
      by_cases hL : L.getD f 0 = farN
      · rw [hL, (h'.far f hf).2 ((h.far f hf).1 hL)]
      · have hM : M.getD f 0 ≠ farN := fun e => hL ((h.far f hf).2 ((h'.far f hf).1 e))
        obtain ⟨_, ⟨c, hw⟩, hm⟩ := h.way f hf hL
        obtain ⟨_, ⟨c', hw'⟩, hm'⟩ := h'.way f hf hM
        exact Nat.le_antisymm (hm _ _ hw') (hm' _ _ hw)
    rw [List.getElem?_eq_getElem (by rw [h.len]; exact hf), List.getElem?_eq_getElem (by rw [h'.len]; exact hf)]
    rw [List.getD_eq_getElem?_getD, List.getD_eq_getElem?_getD, List.getElem?_eq_getElem (by rw [h.len]; exact hf), List.getElem?_eq_getElem (by rw [h'.len]; exact hf)] at e
    exact congrArg some e
  · rw [List.getElem?_eq_none (by rw [h.len]; omega), List.getElem?_eq_none (by rw [h'.len]; omega)]
theorem Dst.zero {ags : List Ag} {used p : Nat} {L : List Nat} (h : Dst ags used p L) : L.getD 0 0 = 0 := by
  have h0 : nn 0 p = 0 := by unfold nn; simp
  have hc : Clr ags used p 0 := ⟨0, 0, .done h0⟩
  have hne : L.getD 0 0 ≠ farN := fun e => (h.far 0 (by omega)).1 e hc
  have := (h.way 0 (by omega) hne).2.2 0 0 (.done h0)
  omega
end Go.Proofs.YtofkhehcnfiopaaDoor.N
namespace Go.Proofs.YtofkhehcnfiopaaDoor.N
open Go Go.RowKit Go.Proofs
set_option linter.unusedSectionVars false
variable [I : Sys]
/-! What is asked of whatever agents and faults. -/
/-- What Farthest says. -/
def FarS (l : List RA) (p : Int) (n m E : Nat) : Prop :=
  (askedR l 0 p = 0 ∧ E = 0 ∧ ∃ L, Dst (agsOf l) (usedAll (agsOf l).length) p.toNat L ∧ n = (bestL L 64).1 ∧ m = (bestL L 64).2) ∨ (askedR l 0 p ≠ 0 ∧ E = askedR l 0 p ∧ n = 0 ∧ m = 0)
theorem FarS.unique {l : List RA} {p : Int} {n m E n' m' E' : Nat} (h : FarS l p n m E) (h' : FarS l p n' m' E') : n = n' ∧ m = m' ∧ E = E' := by
  rcases h with ⟨h0, rfl, L, hL, rfl, rfl⟩ | ⟨h0, rfl, rfl, rfl⟩
  · rcases h' with ⟨_, rfl, M, hM, rfl, rfl⟩ | ⟨h1, _⟩
    · obtain rfl := hL.unique hM
      exact ⟨rfl, rfl, rfl⟩
    · exact absurd h0 h1
  · rcases h' with ⟨h1, _⟩ | ⟨_, rfl, rfl, rfl⟩
    · exact absurd h1 h0
    · exact ⟨rfl, rfl, rfl⟩
end Go.Proofs.YtofkhehcnfiopaaDoor.N
