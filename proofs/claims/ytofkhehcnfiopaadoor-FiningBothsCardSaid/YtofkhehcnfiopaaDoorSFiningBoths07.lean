/- Parts of the walks of the laws on fining, those that FiningBoths needs: F29, Rds, PutS, F31, PutL, PutL2, F33, Raw, F34, All, Eqa, Icell, F35, Sx11, F36, Puts, F37, Dist, All2, BothP, Sx13, F41. -/
import Derived.Test.YtofkhehcnfiopaaDoorSFiningBoths06
import Derived.Test.YtofkhehcnfiopaaDoorProg
import Derived.DeepKeys3
import Derived.Test.YtofkhehcnfiopaaDoorSFiningBoths05
namespace Go.Proofs.YtofkhehcnfiopaaDoor.N
open Go Go.RowKit Go.Proofs
theorem F.ent47 : Enters Tryd.prog 47 := enters_of Tryd.func47 rfl (by kernel_rfl)
theorem F.ent82 : Enters Tryd.prog 82 := enters_of Tryd.func82 rfl (by kernel_rfl)
theorem F.ent86 : Enters Tryd.prog 86 := enters_of Tryd.func86 rfl (by kernel_rfl)
theorem F.ent97 : Enters Tryd.prog 97 := enters_of Tryd.func97 rfl (by kernel_rfl)
theorem among_c (n lo hi : Int) (w : World) : Calls Tryd.prog 82 #[.int .i64 n, .int .i64 lo, .int .i64 hi] w fun e w' => e = .returned (.bool (inB n lo hi)) ∧ Grew w w' [] := by
  refine enter (N := 15) [(0, .int .i64 n), (1, .int .i64 lo), (2, .int .i64 hi)] Tryd.func82 rfl Tryd.ntmps82 rfl rfl ?_
  refine cod_seq ?_
  refine cod_region ?_
  refine lst_assign rfl rfl ?_
  refine lst_nil ?_
  refine ex_then ?_
  refine cod_seq ?_
  refine cod_region ?_
  refine lst_cut1 8 14 (.bool (inB n lo hi)) ?_ ?_
  · skip
    refine lst_move rfl rfl ?_
    refine lst_move rfl rfl ?_
    refine lst_int rfl rfl rfl bin_geq ?_
    refine lst_move rfl rfl ?_
    refine lst_split_bool (t := 10) rfl (fun hg10 => ?_) (fun hg10 => ?_)
    · skip
      refine lst_on rfl rfl ?_
      refine lst_move rfl rfl ?_
      refine lst_on rfl rfl ?_
      refine lst_move rfl rfl ?_
      refine lst_on rfl rfl ?_
      refine lst_int rfl rfl rfl bin_leq ?_
      refine lst_pick_true rfl rfl rfl ?_
      refine lst_nil ?_
      exact ex_cut (.cons (by first | (simp_all [look, inB]; done) | (simp_all [look, inB]; omega)) (by repeat (first | exact Sub.nil _ | refine Sub.cons rfl ?_))) (by repeat (first | exact List.Sublist.refl _ | exact List.nil_sublist _ | refine List.Sublist.cons_cons _ ?_ | refine List.Sublist.cons _ ?_))
    · skip
      refine lst_off rfl rfl rfl ?_
      refine lst_off rfl rfl rfl ?_
      refine lst_off rfl rfl rfl ?_
      refine lst_pick_false rfl rfl rfl ?_
      refine lst_nil ?_
      exact ex_cut (.cons (by first | (simp_all [look, inB]; done) | (simp_all [look, inB]; omega)) (by repeat (first | exact Sub.nil _ | refine Sub.cons rfl ?_))) (by repeat (first | exact List.Sublist.refl _ | exact List.nil_sublist _ | refine List.Sublist.cons_cons _ ?_ | refine List.Sublist.cons _ ?_))
  refine lst_assign rfl rfl ?_
  refine lst_nil ?_
  refine ex_then ?_
  refine cod_ret ?_
  refine ex_ret rfl (fun a w ha => res_one rfl rfl ha) (fun a w ha => ⟨by rfl, ha.grown (List.nil_sublist _)⟩)

theorem rcheck_c (A : Option Addr) (c : Nat) (l : List RA) (w : World) (hA : RdL RA.cells 5 w A l) : Calls Tryd.prog 47 #[.slice A l.length c] w fun e w' => e = .returned (.int .i64 ((checkR l : Nat) : Int)) ∧ Grew w w' [] := by
  refine enter (N := 50) [(0, .slice A l.length c)] Tryd.func47 rfl Tryd.ntmps47 rfl rfl ?_
  refine cod_seq ?_
  refine cod_region ?_
  refine lst_assign rfl rfl ?_
  refine lst_nil ?_
  refine ex_then ?_
  refine cod_seq ?_
  refine cod_seq ?_
  refine cod_region ?_
  refine lst_move rfl rfl ?_
  refine lst_len rfl rfl Tryd.underlying22 ?_
  refine lst_int rfl rfl rfl bin_gtr ?_
  refine lst_nil ?_
  refine ex_then ?_
  refine cod_cond_dec rfl (fun hc0 => ?_) (fun hc0 => ?_)
  · skip
    refine cod_seq ?_
    refine cod_region ?_
    refine lst_assign rfl rfl ?_
    refine lst_nil ?_
    refine ex_then ?_
    refine cod_ret ?_
    refine ex_then_ret ?_
    refine ex_ret rfl (fun a w ha => res_one rfl rfl ha) (fun a w ha => ⟨by rw [show checkR l = 6 from if_pos (by omega)]; rfl, ha.grown (List.nil_sublist _)⟩)
  · skip
    have hl4 : l.length ≤ 4 := by omega
    have hcr : checkR l = firstBad l := if_neg (by omega)
    refine cod_skip ?_
    refine ex_then ?_
    refine cod_seq ?_
    refine cod_seq ?_
    refine cod_region ?_
    refine lst_assign rfl rfl ?_
    refine lst_nil ?_
    refine ex_then ?_
    refine cod_block ?_
    refine cod_loop (G := Nat) (fun k => k ≤ l.length ∧ ∀ y ∈ l.take k, y.bad = 0) (fun k => l.length - k) (fun k => [(0, .slice A l.length c), (3, .int .i64 (k : Int))]) (fun k => []) 0 ⟨Nat.zero_le _, by simp⟩ (by repeat (first | exact Sub.nil _ | refine Sub.cons rfl ?_)) (by repeat (first | exact List.Sublist.refl _ | exact List.nil_sublist _ | refine List.Sublist.cons_cons _ ?_ | refine List.Sublist.cons _ ?_)) ?_
    intro k hk
    (try dsimp only at hk ⊢)
    refine cod_seq ?_
    refine cod_seq ?_
    refine cod_region ?_
    refine lst_move rfl rfl ?_
    refine lst_move rfl rfl ?_
    refine lst_len rfl rfl Tryd.underlying22 ?_
    refine lst_int rfl rfl rfl bin_lss ?_
    refine lst_nil ?_
    refine ex_then ?_
    refine cod_cond_dec rfl (fun hc1 => ?_) (fun hc1 => ?_)
    · skip
      have hk' : k < l.length := by omega
      obtain ⟨b, o, rfl, hb, hcell⟩ := hA (by omega)
      obtain ⟨x, hx⟩ : ∃ x, l[k]? = some x := ⟨_, List.getElem?_eq_getElem hk'⟩
      have hpos : x.bad ≠ 0 → checkR l = x.bad := by
        intro hne
        rw [hcr, ← List.take_append_drop k l, firstBad_pre hk.2, List.drop_eq_getElem_cons hk', firstBad]
        have : l[k] = x := by rw [List.getElem?_eq_getElem hk'] at hx; exact Option.some.inj hx
        rw [this, if_pos hne]
      refine cod_skip ?_
      refine ex_then ?_
      refine cod_seq ?_
      refine cod_block ?_
      refine cod_seq ?_
      refine cod_region ?_
      refine lst_move rfl rfl ?_
      refine lst_move rfl rfl ?_
      refine lst_index (j := k) rfl rfl rfl Tryd.underlying22 F.ti24 rfl hk' ?_
      refine lst_loadN_at (l := [.int .i64 x.needs, .int .i64 x.no, .int .i64 x.takes, .int .i64 x.leaves, .int .i64 x.cost]) rfl rfl F.agg24 F.ti24 rfl (fun a w ha j u hu => ha.old (hcell k x hx j u hu) hb) ?_
      refine lst_alloc rfl F.ti24 ?_
      intro b4
      refine lst_store rfl rfl F.ti24 rfl ?_
      refine lst_nil ?_
      refine ex_then ?_
      refine cod_seq ?_
      refine cod_seq ?_
      refine cod_region ?_
      refine lst_cut1 22 39 (.bool (!(allB x.four))) ?_ ?_
      · skip
        refine lst_field_z rfl rfl F.fi24_0 F.ti3 ?_
        refine lst_load rfl rfl F.one3 ?_
        refine lst_fn0 (vs := [_, _, _]) rfl rfl F.ent82 (fun a w ha => among_c x.needs 0 63 w) ?_
        refine lst_not rfl rfl ?_
        refine lst_move rfl rfl ?_
        refine lst_split_bool (t := 22) rfl (fun hg22 => ?_) (fun hg22 => ?_)
        · skip
          refine lst_off rfl rfl rfl ?_
          refine lst_off rfl rfl rfl ?_
          refine lst_off rfl rfl rfl ?_
          refine lst_off rfl rfl rfl ?_
          refine lst_pick_true rfl rfl rfl ?_
          refine lst_move rfl rfl ?_
          refine lst_split_bool (t := 28) rfl (fun hg28 => ?_) (fun hg28 => ?_)
          · skip
            refine lst_off rfl rfl rfl ?_
            refine lst_off rfl rfl rfl ?_
            refine lst_off rfl rfl rfl ?_
            refine lst_off rfl rfl rfl ?_
            refine lst_pick_true rfl rfl rfl ?_
            refine lst_move rfl rfl ?_
            refine lst_split_bool (t := 34) rfl (fun hg34 => ?_) (fun hg34 => ?_)
            · skip
              refine lst_off rfl rfl rfl ?_
              refine lst_off rfl rfl rfl ?_
              refine lst_off rfl rfl rfl ?_
              refine lst_off rfl rfl rfl ?_
              refine lst_pick_true rfl rfl rfl ?_
              refine lst_nil ?_
              exact ex_cut (.cons (by simp_all [look, allB, RA.four]) (by repeat (first | exact Sub.nil _ | refine Sub.cons rfl ?_))) (by repeat (first | exact List.Sublist.refl _ | exact List.nil_sublist _ | refine List.Sublist.cons_cons _ ?_ | refine List.Sublist.cons _ ?_))
            · skip
              refine lst_on rfl rfl ?_
              refine lst_field_z rfl rfl F.fi24_3 F.ti3 ?_
              refine lst_on rfl rfl ?_
              refine lst_load rfl rfl F.one3 ?_
              refine lst_on rfl rfl ?_
              refine lst_fn0 (vs := [_, _, _]) rfl rfl F.ent82 (fun a w ha => among_c x.leaves 0 63 w) ?_
              refine lst_on rfl rfl ?_
              refine lst_not rfl rfl ?_
              refine lst_pick_false rfl rfl rfl ?_
              refine lst_nil ?_
              exact ex_cut (.cons (by simp_all [look, allB, RA.four]) (by repeat (first | exact Sub.nil _ | refine Sub.cons rfl ?_))) (by repeat (first | exact List.Sublist.refl _ | exact List.nil_sublist _ | refine List.Sublist.cons_cons _ ?_ | refine List.Sublist.cons _ ?_))
          · skip
            refine lst_on rfl rfl ?_
            refine lst_field_z rfl rfl F.fi24_2 F.ti3 ?_
            refine lst_on rfl rfl ?_
            refine lst_load rfl rfl F.one3 ?_
            refine lst_on rfl rfl ?_
            refine lst_fn0 (vs := [_, _, _]) rfl rfl F.ent82 (fun a w ha => among_c x.takes 0 63 w) ?_
            refine lst_on rfl rfl ?_
            refine lst_not rfl rfl ?_
            refine lst_pick_false rfl rfl rfl ?_
            refine lst_move rfl rfl ?_
            refine lst_split_bool (t := 34) rfl (fun hg34 => ?_) (fun hg34 => ?_)
            · skip
              refine lst_off rfl rfl rfl ?_
              refine lst_off rfl rfl rfl ?_
              refine lst_off rfl rfl rfl ?_
              refine lst_off rfl rfl rfl ?_
              refine lst_pick_true rfl rfl rfl ?_
              refine lst_nil ?_
              exact ex_cut (.cons (by simp_all [look, allB, RA.four]) (by repeat (first | exact Sub.nil _ | refine Sub.cons rfl ?_))) (by repeat (first | exact List.Sublist.refl _ | exact List.nil_sublist _ | refine List.Sublist.cons_cons _ ?_ | refine List.Sublist.cons _ ?_))
            · skip
              refine lst_on rfl rfl ?_
              refine lst_field_z rfl rfl F.fi24_3 F.ti3 ?_
              refine lst_on rfl rfl ?_
              refine lst_load rfl rfl F.one3 ?_
              refine lst_on rfl rfl ?_
              refine lst_fn0 (vs := [_, _, _]) rfl rfl F.ent82 (fun a w ha => among_c x.leaves 0 63 w) ?_
              refine lst_on rfl rfl ?_
              refine lst_not rfl rfl ?_
              refine lst_pick_false rfl rfl rfl ?_
              refine lst_nil ?_
              exact ex_cut (.cons (by simp_all [look, allB, RA.four]) (by repeat (first | exact Sub.nil _ | refine Sub.cons rfl ?_))) (by repeat (first | exact List.Sublist.refl _ | exact List.nil_sublist _ | refine List.Sublist.cons_cons _ ?_ | refine List.Sublist.cons _ ?_))
        · skip
          refine lst_on rfl rfl ?_
          refine lst_field_z rfl rfl F.fi24_1 F.ti3 ?_
          refine lst_on rfl rfl ?_
          refine lst_load rfl rfl F.one3 ?_
          refine lst_on rfl rfl ?_
          refine lst_fn0 (vs := [_, _, _]) rfl rfl F.ent82 (fun a w ha => among_c x.no 0 63 w) ?_
          refine lst_on rfl rfl ?_
          refine lst_not rfl rfl ?_
          refine lst_pick_false rfl rfl rfl ?_
          refine lst_move rfl rfl ?_
          refine lst_split_bool (t := 28) rfl (fun hg28 => ?_) (fun hg28 => ?_)
          · skip
            refine lst_off rfl rfl rfl ?_
            refine lst_off rfl rfl rfl ?_
            refine lst_off rfl rfl rfl ?_
            refine lst_off rfl rfl rfl ?_
            refine lst_pick_true rfl rfl rfl ?_
            refine lst_move rfl rfl ?_
            refine lst_split_bool (t := 34) rfl (fun hg34 => ?_) (fun hg34 => ?_)
            · skip
              refine lst_off rfl rfl rfl ?_
              refine lst_off rfl rfl rfl ?_
              refine lst_off rfl rfl rfl ?_
              refine lst_off rfl rfl rfl ?_
              refine lst_pick_true rfl rfl rfl ?_
              refine lst_nil ?_
              exact ex_cut (.cons (by simp_all [look, allB, RA.four]) (by repeat (first | exact Sub.nil _ | refine Sub.cons rfl ?_))) (by repeat (first | exact List.Sublist.refl _ | exact List.nil_sublist _ | refine List.Sublist.cons_cons _ ?_ | refine List.Sublist.cons _ ?_))
            · skip
              refine lst_on rfl rfl ?_
              refine lst_field_z rfl rfl F.fi24_3 F.ti3 ?_
              refine lst_on rfl rfl ?_
              refine lst_load rfl rfl F.one3 ?_
              refine lst_on rfl rfl ?_
              refine lst_fn0 (vs := [_, _, _]) rfl rfl F.ent82 (fun a w ha => among_c x.leaves 0 63 w) ?_
              refine lst_on rfl rfl ?_
              refine lst_not rfl rfl ?_
              refine lst_pick_false rfl rfl rfl ?_
              refine lst_nil ?_
              exact ex_cut (.cons (by simp_all [look, allB, RA.four]) (by repeat (first | exact Sub.nil _ | refine Sub.cons rfl ?_))) (by repeat (first | exact List.Sublist.refl _ | exact List.nil_sublist _ | refine List.Sublist.cons_cons _ ?_ | refine List.Sublist.cons _ ?_))
          · skip
            refine lst_on rfl rfl ?_
            refine lst_field_z rfl rfl F.fi24_2 F.ti3 ?_
            refine lst_on rfl rfl ?_
            refine lst_load rfl rfl F.one3 ?_
            refine lst_on rfl rfl ?_
            refine lst_fn0 (vs := [_, _, _]) rfl rfl F.ent82 (fun a w ha => among_c x.takes 0 63 w) ?_
            refine lst_on rfl rfl ?_
            refine lst_not rfl rfl ?_
            refine lst_pick_false rfl rfl rfl ?_
            refine lst_move rfl rfl ?_
            refine lst_split_bool (t := 34) rfl (fun hg34 => ?_) (fun hg34 => ?_)
            · skip
              refine lst_off rfl rfl rfl ?_
              refine lst_off rfl rfl rfl ?_
              refine lst_off rfl rfl rfl ?_
              refine lst_off rfl rfl rfl ?_
              refine lst_pick_true rfl rfl rfl ?_
              refine lst_nil ?_
              exact ex_cut (.cons (by simp_all [look, allB, RA.four]) (by repeat (first | exact Sub.nil _ | refine Sub.cons rfl ?_))) (by repeat (first | exact List.Sublist.refl _ | exact List.nil_sublist _ | refine List.Sublist.cons_cons _ ?_ | refine List.Sublist.cons _ ?_))
            · skip
              refine lst_on rfl rfl ?_
              refine lst_field_z rfl rfl F.fi24_3 F.ti3 ?_
              refine lst_on rfl rfl ?_
              refine lst_load rfl rfl F.one3 ?_
              refine lst_on rfl rfl ?_
              refine lst_fn0 (vs := [_, _, _]) rfl rfl F.ent82 (fun a w ha => among_c x.leaves 0 63 w) ?_
              refine lst_on rfl rfl ?_
              refine lst_not rfl rfl ?_
              refine lst_pick_false rfl rfl rfl ?_
              refine lst_nil ?_
              exact ex_cut (.cons (by simp_all [look, allB, RA.four]) (by repeat (first | exact Sub.nil _ | refine Sub.cons rfl ?_))) (by repeat (first | exact List.Sublist.refl _ | exact List.nil_sublist _ | refine List.Sublist.cons_cons _ ?_ | refine List.Sublist.cons _ ?_))
      refine lst_nil ?_
      refine ex_then ?_
      refine cod_cond_bool rfl (fun hc2 => ?_) (fun hc2 => ?_)
      · skip
        refine cod_seq ?_
        refine cod_region ?_
        refine lst_assign rfl rfl ?_
        refine lst_nil ?_
        refine ex_then ?_
        refine cod_ret ?_
        refine ex_then_ret ?_
        refine ex_block_ret ?_
        refine ex_then_ret ?_
        refine ex_then_ret ?_
        refine ex_block_ret ?_
        refine ex_then_ret ?_
        have hb1 : x.bad = 1 := if_pos (by simpa using hc2)
        refine ex_ret rfl (fun a w ha => res_one rfl rfl ha) (fun a w ha => ⟨by rw [hpos (by omega), hb1]; rfl, ha.grown (List.nil_sublist _)⟩)
      · skip
        have h4 : allB x.four = true := by simpa using hc2
        have h4' := h4
        simp only [allB, RA.four, List.all_cons, List.all_nil, Bool.and_true, Bool.and_eq_true, inB_true] at h4'
        obtain ⟨n1, hn1⟩ := Int.eq_ofNat_of_zero_le h4'.1.1
        obtain ⟨n2, hn2⟩ := Int.eq_ofNat_of_zero_le h4'.2.1.1
        have hn1' : n1 < 64 := by omega
        have hn2' : n2 < 64 := by omega
        have hbad : x.bad = if n1 &&& n2 ≠ 0 then 9 else if inB x.cost 1 9 = false then 1 else 0 := by
          unfold RA.bad
          rw [if_neg (by rw [h4]; simp), hn1, hn2, Int.toNat_natCast, Int.toNat_natCast]
        rw [hn1, hn2]
        refine cod_skip ?_
        refine ex_then ?_
        refine cod_seq ?_
        refine cod_seq ?_
        refine cod_region ?_
        refine lst_field_z rfl rfl F.fi24_0 F.ti3 ?_
        refine lst_load rfl rfl F.one3 ?_
        refine lst_field_z rfl rfl F.fi24_1 F.ti3 ?_
        refine lst_load rfl rfl F.one3 ?_
        refine lst_int rfl rfl rfl (fun w => bin_and w (i64_and n1 n2 (by omega) (by omega))) ?_
        refine lst_int rfl rfl rfl bin_neq ?_
        refine lst_nil ?_
        refine ex_then ?_
        refine cod_cond_dec rfl (fun hc3 => ?_) (fun hc3 => ?_)
        · skip
          refine cod_seq ?_
          refine cod_region ?_
          refine lst_assign rfl rfl ?_
          refine lst_nil ?_
          refine ex_then ?_
          refine cod_ret ?_
          refine ex_then_ret ?_
          refine ex_block_ret ?_
          refine ex_then_ret ?_
          refine ex_then_ret ?_
          refine ex_block_ret ?_
          refine ex_then_ret ?_
          have hb9 : x.bad = 9 := by rw [hbad, if_pos (by omega)]
          refine ex_ret rfl (fun a w ha => res_one rfl rfl ha) (fun a w ha => ⟨by rw [hpos (by omega), hb9]; rfl, ha.grown (List.nil_sublist _)⟩)
        · skip
          have h5 : ¬ (n1 &&& n2 ≠ 0) := by omega
          rw [if_neg h5] at hbad
          refine cod_skip ?_
          refine ex_then ?_
          refine cod_seq ?_
          refine cod_region ?_
          refine lst_field_z rfl rfl F.fi24_4 F.ti3 ?_
          refine lst_load rfl rfl F.one3 ?_
          refine lst_fn0 (vs := [_, _, _]) rfl rfl F.ent82 (fun a w ha => among_c x.cost 1 9 w) ?_
          refine lst_not rfl rfl ?_
          refine lst_nil ?_
          refine ex_then ?_
          refine cod_cond_bool rfl (fun hc4 => ?_) (fun hc4 => ?_)
          · skip
            refine cod_seq ?_
            refine cod_region ?_
            refine lst_assign rfl rfl ?_
            refine lst_nil ?_
            refine ex_then ?_
            refine cod_ret ?_
            refine ex_block_ret ?_
            refine ex_then_ret ?_
            refine ex_then_ret ?_
            refine ex_block_ret ?_
            refine ex_then_ret ?_
            have hb1 : x.bad = 1 := by rw [hbad, if_pos (by simpa using hc4)]
            refine ex_ret rfl (fun a w ha => res_one rfl rfl ha) (fun a w ha => ⟨by rw [hpos (by omega), hb1]; rfl, ha.grown (List.nil_sublist _)⟩)
          · skip
            have hb0 : x.bad = 0 := by rw [hbad, if_neg (by simpa using hc4)]
            have htake : l.take (k + 1) = l.take k ++ [x] := by rw [List.take_add_one, hx]; rfl
            refine cod_skip ?_
            refine ex_block_normal ?_
            refine ex_then ?_
            refine cod_region ?_
            refine lst_move rfl rfl ?_
            refine lst_int rfl rfl rfl (fun w => bin_add w (wrap_i64' _ (by omega) (by omega))) ?_
            refine lst_assign rfl rfl ?_
            refine lst_nil ?_
            refine ex_round (k + 1) ⟨by omega, by rw [htake]; intro y hy; rcases List.mem_append.1 hy with h | h; exact hk.2 y h; simp at h; subst h; exact hb0⟩ (by (try dsimp only); omega) (by repeat (first | exact Sub.nil _ | refine Sub.cons rfl ?_)) (by repeat (first | exact List.Sublist.refl _ | exact List.nil_sublist _ | refine List.Sublist.cons_cons _ ?_ | refine List.Sublist.cons _ ?_))
    · skip
      refine cod_exit ?_
      refine ex_then_exit ?_
      refine ex_then_exit ?_
      refine ex_block_exit ?_
      refine ex_then ?_
      refine cod_seq ?_
      refine cod_region ?_
      refine lst_assign rfl rfl ?_
      refine lst_nil ?_
      refine ex_then ?_
      refine cod_ret ?_
      have hz : checkR l = 0 := by
        have h := hk.2
        rw [List.take_of_length_le (by omega)] at h
        rw [hcr, ← List.append_nil l, firstBad_pre h]; rfl
      refine ex_ret rfl (fun a w ha => res_one rfl rfl ha) (fun a w ha => ⟨by rw [hz]; rfl, ha.grown (List.nil_sublist _)⟩)

theorem asked_c (A : Option Addr) (c : Nat) (l : List RA) (m p : Int) (w : World) (hA : RdL RA.cells 5 w A l) : Calls Tryd.prog 86 #[.slice A l.length c, .int .i64 m, .int .i64 p] w fun e w' => e = .returned (.int .i64 ((askedR l m p : Nat) : Int)) ∧ Grew w w' [] := by
  refine enter (N := 21) [(0, .slice A l.length c), (1, .int .i64 m), (2, .int .i64 p)] Tryd.func86 rfl Tryd.ntmps86 rfl rfl ?_
  refine cod_seq ?_
  refine cod_region ?_
  refine lst_assign rfl rfl ?_
  refine lst_nil ?_
  refine ex_then ?_
  refine cod_seq ?_
  refine cod_seq ?_
  refine cod_region ?_
  refine lst_move rfl rfl ?_
  refine lst_fn0 (vs := [_]) rfl rfl F.ent47 (fun a w ha => rcheck_c A c l w (hA.later ha.below)) ?_
  refine lst_assign rfl rfl ?_
  refine lst_nil ?_
  refine ex_then ?_
  refine cod_seq ?_
  refine cod_region ?_
  refine lst_move rfl rfl ?_
  refine lst_int rfl rfl rfl bin_neq ?_
  refine lst_nil ?_
  refine ex_then ?_
  refine cod_cond_dec rfl (fun hc0 => ?_) (fun hc0 => ?_)
  · skip
    have hc : ¬ checkR l = 0 := by omega
    refine cod_seq ?_
    refine cod_region ?_
    refine lst_move rfl rfl ?_
    refine lst_assign rfl rfl ?_
    refine lst_nil ?_
    refine ex_then ?_
    refine cod_ret ?_
    refine ex_then_ret ?_
    refine ex_ret rfl (fun a w ha => res_one rfl rfl ha) (fun a w ha => ⟨by rw [show askedR l m p = checkR l from if_pos hc], ha.grown (List.nil_sublist _)⟩)
  · skip
    have hc : ¬ ¬ checkR l = 0 := by omega
    refine cod_skip ?_
    refine ex_then ?_
    refine cod_seq ?_
    refine cod_seq ?_
    refine cod_region ?_
    refine lst_cut1 8 20 (.bool (!(inB m 0 63 && inB p 0 63))) ?_ ?_
    · skip
      refine lst_move rfl rfl ?_
      refine lst_fn0 (vs := [_, _, _]) rfl rfl F.ent82 (fun a w ha => among_c m 0 63 w) ?_
      refine lst_not rfl rfl ?_
      refine lst_move rfl rfl ?_
      refine lst_split_bool (t := 16) rfl (fun hg16 => ?_) (fun hg16 => ?_)
      · skip
        refine lst_off rfl rfl rfl ?_
        refine lst_off rfl rfl rfl ?_
        refine lst_off rfl rfl rfl ?_
        refine lst_pick_true rfl rfl rfl ?_
        refine lst_nil ?_
        exact ex_cut (.cons (by simp_all [look]) (by repeat (first | exact Sub.nil _ | refine Sub.cons rfl ?_))) (by repeat (first | exact List.Sublist.refl _ | exact List.nil_sublist _ | refine List.Sublist.cons_cons _ ?_ | refine List.Sublist.cons _ ?_))
      · skip
        refine lst_on rfl rfl ?_
        refine lst_move rfl rfl ?_
        refine lst_on rfl rfl ?_
        refine lst_fn0 (vs := [_, _, _]) rfl rfl F.ent82 (fun a w ha => among_c p 0 63 w) ?_
        refine lst_on rfl rfl ?_
        refine lst_not rfl rfl ?_
        refine lst_pick_false rfl rfl rfl ?_
        refine lst_nil ?_
        exact ex_cut (.cons (by simp_all [look]) (by repeat (first | exact Sub.nil _ | refine Sub.cons rfl ?_))) (by repeat (first | exact List.Sublist.refl _ | exact List.nil_sublist _ | refine List.Sublist.cons_cons _ ?_ | refine List.Sublist.cons _ ?_))
    refine lst_nil ?_
    refine ex_then ?_
    refine cod_cond_bool rfl (fun hc1 => ?_) (fun hc1 => ?_)
    · skip
      have he : askedR l m p = 1 := by unfold askedR; rw [if_neg hc, if_neg (by intro h; rw [h] at hc1; cases hc1)]
      refine cod_seq ?_
      refine cod_region ?_
      refine lst_assign rfl rfl ?_
      refine lst_nil ?_
      refine ex_then ?_
      refine cod_ret ?_
      refine ex_then_ret ?_
      refine ex_ret rfl (fun a w ha => res_one rfl rfl ha) (fun a w ha => ⟨by rw [he]; rfl, ha.grown (List.nil_sublist _)⟩)
    · skip
      have he : askedR l m p = 0 := by unfold askedR; rw [if_neg hc, if_pos (by cases h : (inB m 0 63 && inB p 0 63) with | true => rfl | false => rw [h] at hc1; cases hc1)]
      refine cod_skip ?_
      refine ex_then ?_
      refine cod_seq ?_
      refine cod_region ?_
      refine lst_assign rfl rfl ?_
      refine lst_nil ?_
      refine ex_then ?_
      refine cod_ret ?_
      refine ex_ret rfl (fun a w ha => res_one rfl rfl ha) (fun a w ha => ⟨by rw [he]; rfl, ha.grown (List.nil_sublist _)⟩)

theorem rmay_c (x : Ag) (f : Nat) (hx : x.ok) (hf : f < 64) (w : World) : Calls Tryd.prog 97 #[.agg [.int .i64 (x.needs : Int), .int .i64 (x.no : Int), .int .i64 (x.takes : Int), .int .i64 (x.leaves : Int), .int .i64 (x.cost : Int)].toArray, .int .i64 (f : Int)] w fun e w' => e = .returned (.bool (mayN x f)) ∧ Grew w w' [] := by
  have h1 := hx.needs; have h2 := hx.no; clear hx
  refine enter (N := 19) [(0, .agg [.int .i64 (x.needs : Int), .int .i64 (x.no : Int), .int .i64 (x.takes : Int), .int .i64 (x.leaves : Int), .int .i64 (x.cost : Int)].toArray), (1, .int .i64 (f : Int))] Tryd.func97 rfl Tryd.ntmps97 rfl rfl ?_
  refine cod_seq ?_
  refine cod_region ?_
  refine lst_box rfl rfl ?_
  intro b2
  refine lst_assign rfl rfl ?_
  refine lst_nil ?_
  refine ex_then ?_
  refine cod_seq ?_
  refine cod_region ?_
  refine lst_cut1 14 18 (.bool (mayN x f)) ?_ ?_
  · skip
    refine lst_move rfl rfl ?_
    refine lst_field_z rfl rfl F.fi24_0 F.ti3 ?_
    refine lst_load rfl rfl F.one3 ?_
    refine lst_int rfl rfl rfl (fun w => bin_and w (i64_and f x.needs (by omega) (by omega))) ?_
    refine lst_field_z rfl rfl F.fi24_0 F.ti3 ?_
    refine lst_load rfl rfl F.one3 ?_
    refine lst_int rfl rfl rfl bin_eql ?_
    refine lst_move rfl rfl ?_
    refine lst_split (t := 12) rfl (fun hg12 => ?_) (fun hg12 => ?_)
    · skip
      refine lst_on rfl rfl ?_
      refine lst_move rfl rfl ?_
      refine lst_on rfl rfl ?_
      refine lst_field_z rfl rfl F.fi24_1 F.ti3 ?_
      refine lst_on rfl rfl ?_
      refine lst_load rfl rfl F.one3 ?_
      refine lst_on rfl rfl ?_
      refine lst_int rfl rfl rfl (fun w => bin_and w (i64_and f x.no (by omega) (by omega))) ?_
      refine lst_on rfl rfl ?_
      refine lst_int rfl rfl rfl bin_eql ?_
      refine lst_pick_true rfl rfl rfl ?_
      refine lst_nil ?_
      exact ex_cut (.cons (by first | (rw [may_and]; simp [look, hg12]; omega) | (rw [may_and]; simp [look, hg12]) | (rw [may_and]; simp_all [look]; omega)) (by repeat (first | exact Sub.nil _ | refine Sub.cons rfl ?_))) (by repeat (first | exact List.Sublist.refl _ | exact List.nil_sublist _ | refine List.Sublist.cons_cons _ ?_ | refine List.Sublist.cons _ ?_))
    · skip
      refine lst_off rfl rfl rfl ?_
      refine lst_off rfl rfl rfl ?_
      refine lst_off rfl rfl rfl ?_
      refine lst_off rfl rfl rfl ?_
      refine lst_off rfl rfl rfl ?_
      refine lst_pick_false rfl rfl rfl ?_
      refine lst_nil ?_
      exact ex_cut (.cons (by first | (rw [may_and]; simp [look, hg12]; omega) | (rw [may_and]; simp [look, hg12]) | (rw [may_and]; simp_all [look]; omega)) (by repeat (first | exact Sub.nil _ | refine Sub.cons rfl ?_))) (by repeat (first | exact List.Sublist.refl _ | exact List.nil_sublist _ | refine List.Sublist.cons_cons _ ?_ | refine List.Sublist.cons _ ?_))
  refine lst_assign rfl rfl ?_
  refine lst_nil ?_
  refine ex_then ?_
  refine cod_ret ?_
  refine ex_ret rfl (fun a w ha => res_one rfl rfl ha) (fun a w ha => ⟨by rfl, ha.grown (List.nil_sublist _)⟩)

theorem rafter_c (x : Ag) (f : Nat) (hx : x.ok) (hf : f < 64) (w : World) : Calls Tryd.prog 94 #[.agg [.int .i64 (x.needs : Int), .int .i64 (x.no : Int), .int .i64 (x.takes : Int), .int .i64 (x.leaves : Int), .int .i64 (x.cost : Int)].toArray, .int .i64 (f : Int)] w fun e w' => e = .returned (.int .i64 ((putN x f : Nat) : Int)) ∧ Grew w w' [] := by
  have h1 := hx.takes; have h2 := hx.leaves; clear hx
  refine enter (N := 12) [(0, .agg [.int .i64 (x.needs : Int), .int .i64 (x.no : Int), .int .i64 (x.takes : Int), .int .i64 (x.leaves : Int), .int .i64 (x.cost : Int)].toArray), (1, .int .i64 (f : Int))] Tryd.func94 rfl Tryd.ntmps94 rfl rfl ?_
  refine cod_seq ?_
  refine cod_region ?_
  refine lst_box rfl rfl ?_
  intro b2
  refine lst_assign rfl rfl ?_
  refine lst_nil ?_
  refine ex_then ?_
  refine cod_seq ?_
  refine cod_region ?_
  refine lst_move rfl rfl ?_
  refine lst_field_z rfl rfl F.fi24_2 F.ti3 ?_
  refine lst_load rfl rfl F.one3 ?_
  refine lst_int rfl rfl rfl (fun w => bin_andNot w (i64_andNot f x.takes (by omega) (by omega))) ?_
  refine lst_field_z rfl rfl F.fi24_3 F.ti3 ?_
  refine lst_load rfl rfl F.one3 ?_
  have h3 : nn f x.takes < 64 := nn64 hf
  refine lst_int rfl rfl rfl (fun w => bin_or w (i64_or (nn f x.takes) x.leaves (by omega) (by omega))) ?_
  refine lst_assign rfl rfl ?_
  refine lst_nil ?_
  refine ex_then ?_
  refine cod_ret ?_
  refine ex_ret rfl (fun a w ha => res_one rfl rfl ha) (fun a w ha => ⟨by rfl, ha.grown (List.nil_sublist _)⟩)

end Go.Proofs.YtofkhehcnfiopaaDoor.N
namespace Go.Proofs.YtofkhehcnfiopaaDoor.N
open Go Go.RowKit Go.Proofs
/-- A slice that reads as a list wherever some things are held. -/
def Rds {α : Type} (cells : α → List Value) (size : Nat) (C : Ctx) (T : List Res) (A : Option Addr) (l : List α) : Prop :=
  ∀ (C' : Ctx) (fr : List (Nat × Value)) (hp : List Res) (a : Act) (w : World), At C' fr hp a w → C'.P = C.P → C'.B = C.B → C'.w0 = C.w0 → (∀ r ∈ T, r ∈ hp) → RdL cells size w A l
theorem Rds.row {α : Type} {cells : α → List Value} {size : Nat} {C : Ctx} {T : List Res} {A : Option Addr} {l : List α} {e c : Nat} (hs : ∀ x, (cells x).length = size) (h : Res.row e size A l.length c (l.flatMap cells) ∈ T) : Rds cells size C T A l :=
  fun _ _ _ _ _ ha _ _ _ hm => row_reads ha hs (hm _ h) rfl
theorem Rds.blk {α : Type} {cells : α → List Value} {size : Nat} {C : Ctx} {T : List Res} {b ct : Nat} {l : List α} (hs : ∀ x, (cells x).length = size) (h : Res.blk b (.cells (l.flatMap cells).toArray ct (0, 0)) ∈ T) : Rds cells size C T (some ⟨b, 0, none⟩) l := by
  intro C' fr hp a w ha _ _ _ hm _
  refine ⟨b, 0, rfl, (Res.lt (ha.own _ (hm _ h)) b rfl).2, fun k x hk j u hu => ?_⟩
  rw [Nat.zero_add]
  exact cell_of_blk (ha.mem_blk (hm _ h)) (flatMap_get hs l k x hk j u hu)
theorem Rds.old {α : Type} {cells : α → List Value} {size : Nat} {C : Ctx} {T : List Res} {A : Option Addr} {l : List α} (h : RdL cells size C.w0 A l) (hB : C.w0.heap.size = C.B) : Rds cells size C T A l := by
  intro C' fr hp a w ha _ h2 h3 _ hl
  obtain ⟨b, o, e1, e2, e3⟩ := h hl
  have hbB : b < C'.B := by rw [h2, ← hB]; exact e2
  refine ⟨b, o, e1, ?_, fun k x hk j u hu => ?_⟩
  · have h4 := ha.below.size
    rw [h3] at h4
    omega
  · exact ha.old (by rw [h3]; exact e3 k x hk j u hu) hbB
/-- What becomes of a melt along a way; else the error. -/
def alongE (ags : List Ag) : Nat → List Int → Except Nat (List Nat)
  | _, [] => .ok []
  | f, n :: l => if inB n 0 ((ags.length : Int) - 1) = false then .error 3 else if mayN (ags.getD n.toNat default) f = false then .error 12 else (alongE ags (putN (ags.getD n.toNat default) f) l).map (putN (ags.getD n.toNat default) f :: ·)
/-- The outs so far, and what is still to come. -/
def goesOn (outs : List Nat) (r : Except Nat (List Nat)) : Except Nat (List Nat) := r.map (outs ++ ·)
theorem goesOn_nil (r : Except Nat (List Nat)) : goesOn [] r = r := by cases r <;> rfl
theorem alongE_step {ags : List Ag} {f k : Nat} {n : Int} {way : List Int} (hn : way[k]? = some n) : alongE ags f (way.drop k) = if inB n 0 ((ags.length : Int) - 1) = false then .error 3 else if mayN (ags.getD n.toNat default) f = false then .error 12 else (alongE ags (putN (ags.getD n.toNat default) f) (way.drop (k + 1))).map (putN (ags.getD n.toNat default) f :: ·) := by
  obtain ⟨hk, he⟩ := List.getElem?_eq_some_iff.1 hn
  rw [List.drop_eq_getElem_cons hk, he]
  rfl
theorem goesOn_step (outs : List Nat) (x : Nat) (r : Except Nat (List Nat)) : goesOn outs (r.map (x :: ·)) = goesOn (outs ++ [x]) r := by
  cases r with
  | error c => rfl
  | ok l =>
    show Except.ok (outs ++ (x :: l)) = Except.ok ((outs ++ [x]) ++ l)
    rw [List.append_assoc]; rfl
end Go.Proofs.YtofkhehcnfiopaaDoor.N
namespace Go.Proofs.YtofkhehcnfiopaaDoor.N
open Go Go.RowKit Go.Proofs
/-- What Put says. -/
def PutS (ags : List Ag) (f : Nat) (way : List Int) (outs : List Nat) (E : Nat) : Prop :=
  (way.length ≤ 20 ∧ alongE ags f way = .ok outs ∧ E = 0 ∧ outs.length = way.length) ∨ (way.length ≤ 20 ∧ alongE ags f way = .error E ∧ (E = 3 ∨ E = 12) ∧ outs = []) ∨ (20 < way.length ∧ E = 6 ∧ outs = [])
theorem PutS.len {ags : List Ag} {f E : Nat} {way : List Int} {outs : List Nat} (h : PutS ags f way outs E) : outs.length ≤ 20 := by
  rcases h with ⟨h1, _, _, h4⟩ | ⟨_, _, _, rfl⟩ | ⟨_, _, rfl⟩
  · omega
  · simp
  · simp
end Go.Proofs.YtofkhehcnfiopaaDoor.N
namespace Go.Proofs.YtofkhehcnfiopaaDoor.N
open Go Go.RowKit Go.Proofs
theorem F.ent94 : Enters Tryd.prog 94 := enters_of Tryd.func94 rfl (by kernel_rfl)
end Go.Proofs.YtofkhehcnfiopaaDoor.N
namespace Go.Proofs.YtofkhehcnfiopaaDoor.N
open Go Go.RowKit Go.Proofs
def castL (l : List Nat) : List Int := l.map fun (n : Nat) => (n : Int)
def lastN (m : Nat) (l : List Nat) : Nat := l.getLast?.getD m
theorem lastN_snoc (m : Nat) (l : List Nat) (x : Nat) : lastN m (l ++ [x]) = x := by
  unfold lastN
  simp
theorem castL_len (l : List Nat) : (castL l).length = l.length := List.length_map ..
theorem castL_get {l : List Nat} {i x : Nat} (h : l[i]? = some x) : (castL l)[i]? = some (x : Int) := by
  unfold castL
  rw [List.getElem?_map, h]; rfl
/-- The law's own way through the list. -/
structure Wlk (ags : List Ag) (m : Nat) (W : List Nat) (i now due : Nat) : Prop where
  lt : now < 64
  go : due = 0 → ∃ pre, pre.length = i ∧ lastN m pre = now ∧ alongE ags m (castL W) = goesOn pre (alongE ags now ((castL W).drop i))
  bad : due ≠ 0 → (due = 3 ∨ due = 12) ∧ alongE ags m (castL W) = .error due
theorem Wlk.zero {ags : List Ag} {m : Nat} {W : List Nat} (hm : m < 64) : Wlk ags m W 0 m 0 := ⟨hm, fun _ => ⟨[], rfl, rfl, by rw [goesOn_nil]; rfl⟩, fun h => absurd rfl h⟩
theorem Wlk.next {ags : List Ag} {m now i x : Nat} {W : List Nat} (hok : Oks ags) (h : Wlk ags m W i now 0) (hx : W[i]? = some x) (hb : x < ags.length) (hm : mayN (ags.getD x default) now = true) : Wlk ags m W (i + 1) (putN (ags.getD x default) now) 0 := by
  obtain ⟨pre, h1, h2, h3⟩ := h.go rfl
  rw [alongE_step (castL_get hx), if_neg (by rw [Bool.not_eq_false, inB_true]; omega), Int.toNat_natCast, if_neg (by rw [hm]; simp), goesOn_step] at h3
  exact ⟨putN_lt (agd_ok hok hb) h.lt, fun _ => ⟨_, by rw [List.length_append, h1]; rfl, lastN_snoc _ _ _, h3⟩, fun e => absurd rfl e⟩
theorem PutS.ok {ags : List Ag} {f E : Nat} {way : List Int} {outs o : List Nat} (h : PutS ags f way outs E) (hl : way.length ≤ 20) (ho : alongE ags f way = .ok o) : E = 0 ∧ outs = o := by
  rcases h with ⟨_, g1, g2, _⟩ | ⟨_, g1, _⟩ | ⟨g1, _⟩
  · rw [ho] at g1
    exact ⟨g2, (Except.ok.inj g1).symm⟩
  · rw [ho] at g1; cases g1
  · omega
theorem PutS.long {ags : List Ag} {f E : Nat} {way : List Int} {outs : List Nat} (h : PutS ags f way outs E) (hl : 20 < way.length) : E = 6 ∧ outs = [] := by
  rcases h with ⟨g, _⟩ | ⟨g, _⟩ | ⟨_, g⟩
  · omega
  · omega
  · exact g
end Go.Proofs.YtofkhehcnfiopaaDoor.N
namespace Go.Proofs.YtofkhehcnfiopaaDoor.N
open Go Go.RowKit Go.Proofs
/-- Nothing is appended to a row. -/
theorem lst_append_row_nil {C : Ctx} {fr : List (Nat × Value)} {hp : List Res} {ops : Array Oper} {Q : Exit → Act → World → Prop} {rest : List Oper} {d : Nat} {ty : TypeId} {pos : String} {after : Array Edge}
    {x y : Operand} {t e e' : TypeId} {A : Option Addr} {n n' c c' sz size bytes : Nat} {xs : List Value} {z : Value} (hd : Nat.blt d C.N = true)
    (hx : ev fr x = some (.slice A n c)) (hy : ev fr y = some (.slice none 0 0)) (ht : C.P.underlying t = some (.slice e)) (hi : TI C.P e z size bytes) [hr : InR A e' sz n' c' xs hp] (hn : n' = n) (hc : c' = c)
    (k : Lst C ops Q rest ((d, .slice A n c) :: fr) hp) :
    Lst C ops Q (⟨some d, .call { callee := .builtin .append, args := #[x, y], argTypes := #[t, t] }, ty, pos, after, none⟩ :: rest) fr hp := by
  subst hn; subst hc
  obtain ⟨i, hi1, hi2, hi3, hi4⟩ := hi
  refine lst_value _ hd (fun a w ha => ⟨w, ?_, ha⟩) k
  have hr' : (Builtin.append_ #[t, t] ty #[.slice A n' c', .slice none 0 0]).run C.P w = .ok (.slice A n' c') w := by
    cases A with
    | none =>
      obtain ⟨h1, h2⟩ := row_none ha hr.mem rfl
      subst h1; subst h2
      simp [Builtin.append_, run_underlying ht, sizeOf, typeInfo, hi1, Builtin.lenOf, run_firstCells_none, storeCells]
    | some p =>
      have hnc := ha.cap_le hr.mem
      simp [Builtin.append_, run_underlying ht, sizeOf, typeInfo, hi1, Builtin.lenOf, hnc, run_firstCells_none, storeCells]
  simp only [execOp, resolve, invoke, builtin, Sem.run_bind, Sem.run_pure, Result.andThen_ok, List.map_toArray, List.map_cons, List.map_nil, ha.eval hx, ha.eval hy, hr']
end Go.Proofs.YtofkhehcnfiopaaDoor.N
namespace Go.Proofs.YtofkhehcnfiopaaDoor.N
open Go Go.RowKit Go.Proofs

theorem Tells_bad (A : Option Addr) (c : Nat) (l : List RA) (hn : checkR l ≠ 0) (n0 : Int) (n1 : Int) (w : World) (hA : RdL RA.cells 5 w A l) : Calls Tryd.prog 30 #[.slice A l.length c, .int .i64 n0, .int .i64 n1] w fun e w' => e = .returned (.tuple #[.slice none 0 0, .int .i64 ((checkR l : Nat) : Int)]) ∧ Grew w w' [] := by
  refine enter_defers (N := 32) [(0, .slice A l.length c), (1, .int .i64 n0), (2, .int .i64 n1)] Tryd.func30 rfl Tryd.ntmps30 rfl rfl ?_
  refine cod_seq ?_
  refine cod_region ?_
  refine lst_assign rfl rfl ?_
  refine lst_alloc rfl F.ti35 ?_
  intro b7
  refine lst_nil ?_
  refine ex_then ?_
  refine cod_seq ?_
  refine cod_region ?_
  refine lst_defer (first := []) (cap := []) (vs := [_]) rfl rfl ?_
  refine lst_nil ?_
  refine ex_then ?_
  refine cod_seq ?_
  refine cod_region ?_
  refine lst_move rfl rfl ?_
  refine lst_fn_panics (vs := [_]) rfl F.ent75 (fun a w ha => begin_bad A c l hn w (hA.later ha.below)) ?_
  refine ex_then_panic ?_
  exact ex_panic_caught (fun a w ha => ⟨_, res_tc (fn := Tryd.f30) ha rfl rfl rfl F.one35, rfl, ha.grown (by repeat (first | exact List.Sublist.refl _ | exact List.nil_sublist _ | refine List.Sublist.cons_cons _ ?_ | refine List.Sublist.cons _ ?_))⟩)

theorem Tells_bad0 (A : Option Addr) (c : Nat) (ags : List Ag) (hok : Oks ags) (n0 : Int) (hn0 : inB n0 0 63 = false) (n1 : Int) (w : World) (hA : RdL Ag.cells 5 w A ags) : Calls Tryd.prog 30 #[.slice A ags.length c, .int .i64 n0, .int .i64 n1] w fun e w' => e = .returned (.tuple #[.slice none 0 0, .int .i64 1]) ∧ Grew w w' [] := by
  have hua : usedAll ags.length < 256 := by have := usedAll_lt hok.1; omega
  refine enter_defers (N := 32) [(0, .slice A ags.length c), (1, .int .i64 n0), (2, .int .i64 n1)] Tryd.func30 rfl Tryd.ntmps30 rfl rfl ?_
  refine cod_seq ?_
  refine cod_region ?_
  refine lst_assign rfl rfl ?_
  refine lst_alloc rfl F.ti35 ?_
  intro b7
  refine lst_nil ?_
  refine ex_then ?_
  refine cod_seq ?_
  refine cod_region ?_
  refine lst_defer (first := []) (cap := []) (vs := [_]) rfl rfl ?_
  refine lst_nil ?_
  refine ex_then ?_
  refine cod_seq ?_
  refine cod_region ?_
  refine lst_move rfl rfl ?_
  refine lst_fn (X := Option Addr × Nat) (vs := [_]) (p := fun _ => True) (val := fun x => .agg [.slice x.1 ags.length x.2, .int .u8 (usedAll ags.length : Nat)].toArray) (rs := fun x => [.row 89 5 x.1 ags.length x.2 (ags.flatMap Ag.cells)]) rfl rfl F.ent75 (fun a w ha => (begin_ok A c ags hok w (hA.later ha.below)).mono (fun e w' h => by obtain ⟨A', c', h1, h2⟩ := h; exact ⟨(A', c'), trivial, h1, h2⟩)) ?_
  rintro ⟨aA, cg⟩ -
  dsimp only [List.cons_append, List.nil_append]
  refine lst_alloc rfl F.ti75 ?_
  intro b8
  refine lst_store rfl rfl F.ti75 rfl ?_
  refine lst_nil ?_
  refine ex_then ?_
  refine cod_seq ?_
  refine cod_region ?_
  refine lst_move rfl rfl ?_
  refine lst_fn_panics (vs := [_]) rfl F.ent76 (fun a w ha => melt_bad n0 hn0 w) ?_
  refine ex_then_panic ?_
  exact ex_panic_caught (fun a w ha => ⟨_, res_tc (fn := Tryd.f30) ha rfl rfl rfl F.one35, rfl, ha.grown (by repeat (first | exact List.Sublist.refl _ | exact List.nil_sublist _ | refine List.Sublist.cons_cons _ ?_ | refine List.Sublist.cons _ ?_))⟩)

theorem Tells_bad1 (A : Option Addr) (c : Nat) (ags : List Ag) (hok : Oks ags) (n0 : Nat) (hn0 : n0 < 64) (n1 : Int) (hn1 : inB n1 0 63 = false) (w : World) (hA : RdL Ag.cells 5 w A ags) : Calls Tryd.prog 30 #[.slice A ags.length c, .int .i64 (n0 : Int), .int .i64 n1] w fun e w' => e = .returned (.tuple #[.slice none 0 0, .int .i64 1]) ∧ Grew w w' [] := by
  have hua : usedAll ags.length < 256 := by have := usedAll_lt hok.1; omega
  refine enter_defers (N := 32) [(0, .slice A ags.length c), (1, .int .i64 (n0 : Int)), (2, .int .i64 n1)] Tryd.func30 rfl Tryd.ntmps30 rfl rfl ?_
  refine cod_seq ?_
  refine cod_region ?_
  refine lst_assign rfl rfl ?_
  refine lst_alloc rfl F.ti35 ?_
  intro b7
  refine lst_nil ?_
  refine ex_then ?_
  refine cod_seq ?_
  refine cod_region ?_
  refine lst_defer (first := []) (cap := []) (vs := [_]) rfl rfl ?_
  refine lst_nil ?_
  refine ex_then ?_
  refine cod_seq ?_
  refine cod_region ?_
  refine lst_move rfl rfl ?_
  refine lst_fn (X := Option Addr × Nat) (vs := [_]) (p := fun _ => True) (val := fun x => .agg [.slice x.1 ags.length x.2, .int .u8 (usedAll ags.length : Nat)].toArray) (rs := fun x => [.row 89 5 x.1 ags.length x.2 (ags.flatMap Ag.cells)]) rfl rfl F.ent75 (fun a w ha => (begin_ok A c ags hok w (hA.later ha.below)).mono (fun e w' h => by obtain ⟨A', c', h1, h2⟩ := h; exact ⟨(A', c'), trivial, h1, h2⟩)) ?_
  rintro ⟨aA, cg⟩ -
  dsimp only [List.cons_append, List.nil_append]
  refine lst_alloc rfl F.ti75 ?_
  intro b8
  refine lst_store rfl rfl F.ti75 rfl ?_
  refine lst_nil ?_
  refine ex_then ?_
  refine cod_seq ?_
  refine cod_region ?_
  refine lst_move rfl rfl ?_
  refine lst_fn0 (vs := [_]) rfl rfl F.ent76 (fun a w ha => melt_ok n0 hn0 w) ?_
  refine lst_move rfl rfl ?_
  refine lst_fn_panics (vs := [_]) rfl F.ent76 (fun a w ha => melt_bad n1 hn1 w) ?_
  refine ex_then_panic ?_
  exact ex_panic_caught (fun a w ha => ⟨_, res_tc (fn := Tryd.f30) ha rfl rfl rfl F.one35, rfl, ha.grown (by repeat (first | exact List.Sublist.refl _ | exact List.nil_sublist _ | refine List.Sublist.cons_cons _ ?_ | refine List.Sublist.cons _ ?_))⟩)

end Go.Proofs.YtofkhehcnfiopaaDoor.N
namespace Go.Proofs.YtofkhehcnfiopaaDoor.N
open Go Go.RowKit Go.Proofs
/-- The agents that some numbers are. -/
def agsOf (l : List RA) : List Ag := l.map RA.ag
theorem agsOf_len (l : List RA) : (agsOf l).length = l.length := List.length_map ..
end Go.Proofs.YtofkhehcnfiopaaDoor.N
namespace Go.Proofs.YtofkhehcnfiopaaDoor.N
open Go Go.RowKit Go.Proofs

theorem rPut_ok (A wA : Option Addr) (c wc : Nat) (ags : List Ag) (hok : Oks ags) (f : Nat) (hf : f < 64) (way : List Int) (w : World) (hA : RdL Ag.cells 5 w A ags) (hW : RdL icell 1 w wA way) : Calls Tryd.prog 45 #[.slice A ags.length c, .int .i64 (f : Int), .slice wA way.length wc] w fun e w' => ∃ (outs : List Nat) (E : Nat) (A' : Option Addr) (c' : Nat), PutS ags f way outs E ∧ e = .returned (.tuple #[.slice A' outs.length c', .int .i64 (E : Int)]) ∧ Grew w w' [.row 3 1 A' outs.length c' (ints outs)] := by
  refine enter (N := 59) [(0, .slice A ags.length c), (1, .int .i64 (f : Int)), (2, .slice wA way.length wc)] Tryd.func45 rfl Tryd.ntmps45 rfl rfl ?_
  refine cod_seq ?_
  refine cod_region ?_
  refine lst_assign rfl rfl ?_
  refine lst_assign rfl rfl ?_
  refine lst_nil ?_
  refine ex_then ?_
  refine cod_seq ?_
  refine cod_seq ?_
  refine cod_region ?_
  refine lst_move rfl rfl ?_
  refine lst_move rfl rfl ?_
  refine lst_fn0 (v := .int .i64 0) (vs := [_, _, _]) rfl rfl F.ent86 (fun a w ha => by
    have h := asked_c A c (ags.map Ag.raw) (f : Int) 0 w (hA.raw.later ha.below)
    rw [List.length_map, askedR_ok hok hf (by omega)] at h
    exact h) ?_
  refine lst_assign rfl rfl ?_
  refine lst_nil ?_
  refine ex_then ?_
  refine cod_seq ?_
  refine cod_region ?_
  refine lst_move rfl rfl ?_
  refine lst_int rfl rfl rfl bin_neq ?_
  refine lst_nil ?_
  refine ex_then ?_
  refine cod_cond_false rfl ?_
  refine cod_skip ?_
  refine ex_then ?_
  refine cod_seq ?_
  refine cod_seq ?_
  refine cod_region ?_
  refine lst_move rfl rfl ?_
  refine lst_len rfl rfl Tryd.underlying25 ?_
  refine lst_int rfl rfl rfl bin_gtr ?_
  refine lst_nil ?_
  refine ex_then ?_
  refine cod_cond_dec rfl (fun hc1 => ?_) (fun hc1 => ?_)
  · skip
    refine cod_seq ?_
    refine cod_region ?_
    refine lst_assign rfl rfl ?_
    refine lst_assign rfl rfl ?_
    refine lst_nil ?_
    refine ex_then ?_
    refine cod_ret ?_
    refine ex_then_ret ?_
    exact ex_ret rfl (fun a w ha => res_two rfl rfl rfl ha) (fun a w ha => ⟨[], 6, none, 0, .inr (.inr ⟨by omega, rfl, rfl⟩), rfl, (ha.add_nil 3 1).grown (by repeat (first | exact List.Sublist.refl _ | exact List.nil_sublist _ | refine List.Sublist.cons_cons _ ?_ | refine List.Sublist.cons _ ?_))⟩)
  · skip
    refine cod_skip ?_
    refine ex_then ?_
    refine cod_seq ?_
    refine cod_region ?_
    refine lst_assign rfl rfl ?_
    refine lst_nil ?_
    refine ex_then ?_
    refine cod_seq ?_
    refine cod_seq ?_
    refine cod_region ?_
    refine lst_assign rfl rfl ?_
    refine lst_nil ?_
    refine ex_then ?_
    refine cod_block ?_
    have hwl : way.length ≤ 20 := by omega
    refine cod_nil 3 1 ?_
    refine cod_loop (G := Nat × Nat × Option Addr × Nat × List Nat) (fun g => g.1 ≤ way.length ∧ g.2.2.2.2.length = g.1 ∧ g.2.1 < 64 ∧ alongE ags f way = goesOn g.2.2.2.2 (alongE ags g.2.1 (way.drop g.1))) (fun g => way.length - g.1) (fun g => [(0, .slice A ags.length c), (1, .int .i64 (g.2.1 : Int)), (2, .slice wA way.length wc), (9, .slice g.2.2.1 g.2.2.2.2.length g.2.2.2.1), (10, .int .i64 (g.1 : Int))]) (fun g => [.row 3 1 g.2.2.1 g.2.2.2.2.length g.2.2.2.1 (ints g.2.2.2.2)]) (0, f, none, 0, []) ⟨Nat.zero_le _, rfl, hf, by rw [goesOn_nil]; rfl⟩ (by repeat (first | exact Sub.nil _ | refine Sub.cons rfl ?_)) (by repeat (first | exact List.Sublist.refl _ | exact List.nil_sublist _ | refine List.Sublist.cons_cons _ ?_ | refine List.Sublist.cons _ ?_)) ?_
    rintro ⟨k, fk, A1, c1, l1⟩ ⟨hk, hl1, hfk, hal⟩
    (try dsimp only at hk hl1 hfk hal ⊢)
    refine cod_seq ?_
    refine cod_seq ?_
    refine cod_region ?_
    refine lst_move rfl rfl ?_
    refine lst_move rfl rfl ?_
    refine lst_len rfl rfl Tryd.underlying25 ?_
    refine lst_int rfl rfl rfl bin_lss ?_
    refine lst_nil ?_
    refine ex_then ?_
    refine cod_cond_dec rfl (fun hc2 => ?_) (fun hc2 => ?_)
    · skip
      have hkw : k < way.length := by omega
      obtain ⟨bw, ow, rfl, hbw, hwcell⟩ := hW (by omega)
      obtain ⟨n, hwn⟩ : ∃ n, way[k]? = some n := ⟨_, List.getElem?_eq_getElem hkw⟩
      rw [alongE_step hwn] at hal
      have h4 := hok.1
      refine cod_skip ?_
      refine ex_then ?_
      refine cod_seq ?_
      refine cod_block ?_
      refine cod_seq ?_
      refine cod_seq ?_
      refine cod_region ?_
      refine lst_move rfl rfl ?_
      refine lst_move rfl rfl ?_
      refine lst_index (j := k) rfl rfl rfl Tryd.underlying25 F.ti3 rfl hkw ?_
      refine lst_load_at (v := .int .i64 n) rfl rfl F.one3 (fun a w ha => ha.old (hwcell k n hwn 0 _ rfl) hbw) ?_
      refine lst_move rfl rfl ?_
      refine lst_len rfl rfl Tryd.underlying22 ?_
      refine lst_int rfl rfl rfl (fun w => bin_sub w (wrap_i64' ((ags.length : Int) - 1) (by omega) (by omega))) ?_
      refine lst_fn0 (vs := [_, _, _]) rfl rfl F.ent82 (fun a w ha => among_c n 0 ((ags.length : Int) - 1) w) ?_
      refine lst_not rfl rfl ?_
      refine lst_nil ?_
      refine ex_then ?_
      refine cod_cond_bool rfl (fun hc3 => ?_) (fun hc3 => ?_)
      · skip
        refine cod_seq ?_
        refine cod_region ?_
        refine lst_assign rfl rfl ?_
        refine lst_assign rfl rfl ?_
        refine lst_nil ?_
        refine ex_then ?_
        refine cod_ret ?_
        refine ex_then_ret ?_
        refine ex_block_ret ?_
        refine ex_then_ret ?_
        refine ex_then_ret ?_
        refine ex_block_ret ?_
        refine ex_then_ret ?_
        have hb2 : inB n 0 ((ags.length : Int) - 1) = false := by simpa using hc3
        rw [if_pos hb2] at hal
        exact ex_ret rfl (fun a w ha => res_two rfl rfl rfl ha) (fun a w ha => ⟨[], 3, none, 0, .inr (.inl ⟨hwl, hal, .inl rfl, rfl⟩), rfl, (ha.add_nil 3 1).grown (by repeat (first | exact List.Sublist.refl _ | exact List.nil_sublist _ | refine List.Sublist.cons_cons _ ?_ | refine List.Sublist.cons _ ?_))⟩)
      · skip
        have hb2 : inB n 0 ((ags.length : Int) - 1) = true := by simpa using hc3
        rw [if_neg (by rw [hb2]; simp)] at hal
        rw [inB_true] at hb2
        obtain ⟨i, rfl⟩ := Int.eq_ofNat_of_zero_le hb2.1
        rw [Int.toNat_natCast] at hal
        have hii : i < ags.length := by omega
        have hi2 : i < ags.length := by omega
        obtain ⟨b, o, rfl, hb, hcell⟩ := hA (by omega)
        obtain ⟨x, hx⟩ : ∃ x, ags[i]? = some x := ⟨_, List.getElem?_eq_getElem hi2⟩
        have hxo : x.ok := hok.2 x (List.mem_of_getElem? hx)
        have hxd : ags.getD i default = x := by rw [List.getD_eq_getElem?_getD, hx]; rfl
        have h4 := hok.1
        rw [hxd] at hal
        refine cod_skip ?_
        refine ex_then ?_
        refine cod_seq ?_
        refine cod_seq ?_
        refine cod_region ?_
        refine lst_move rfl rfl ?_
        refine lst_move rfl rfl ?_
        refine lst_move rfl rfl ?_
        refine lst_index (j := k) rfl rfl rfl Tryd.underlying25 F.ti3 rfl hkw ?_
        refine lst_load_at (v := .int .i64 (i : Int)) rfl rfl F.one3 (fun a w ha => ha.old (hwcell k _ hwn 0 _ rfl) hbw) ?_
        refine lst_index (j := i) rfl rfl rfl Tryd.underlying22 F.ti24 rfl hi2 ?_
        refine lst_loadN_at (l := [.int .i64 (x.needs : Int), .int .i64 (x.no : Int), .int .i64 (x.takes : Int), .int .i64 (x.leaves : Int), .int .i64 (x.cost : Int)]) rfl rfl F.agg24 F.ti24 rfl (fun a w ha j u hu => ha.old (hcell i x hx j u hu) hb) ?_
        refine lst_move rfl rfl ?_
        refine lst_fn0 (vs := [_, _]) rfl rfl F.ent97 (fun a w ha => rmay_c x fk hxo hfk w) ?_
        refine lst_not rfl rfl ?_
        refine lst_nil ?_
        refine ex_then ?_
        refine cod_cond_bool rfl (fun hc4 => ?_) (fun hc4 => ?_)
        · skip
          refine cod_seq ?_
          refine cod_region ?_
          refine lst_assign rfl rfl ?_
          refine lst_assign rfl rfl ?_
          refine lst_nil ?_
          refine ex_then ?_
          refine cod_ret ?_
          refine ex_then_ret ?_
          refine ex_block_ret ?_
          refine ex_then_ret ?_
          refine ex_then_ret ?_
          refine ex_block_ret ?_
          refine ex_then_ret ?_
          have hm : mayN x fk = false := by simpa using hc4
          rw [if_pos hm] at hal
          exact ex_ret rfl (fun a w ha => res_two rfl rfl rfl ha) (fun a w ha => ⟨[], 12, none, 0, .inr (.inl ⟨hwl, hal, .inr rfl, rfl⟩), rfl, (ha.add_nil 3 1).grown (by repeat (first | exact List.Sublist.refl _ | exact List.nil_sublist _ | refine List.Sublist.cons_cons _ ?_ | refine List.Sublist.cons _ ?_))⟩)
        · skip
          have hm : mayN x fk = true := by simpa using hc4
          rw [if_neg (by rw [hm]; simp), goesOn_step] at hal
          refine cod_skip ?_
          refine ex_then ?_
          refine cod_seq ?_
          refine cod_region ?_
          refine lst_move rfl rfl ?_
          refine lst_move rfl rfl ?_
          refine lst_move rfl rfl ?_
          refine lst_index (j := k) rfl rfl rfl Tryd.underlying25 F.ti3 rfl hkw ?_
          refine lst_load_at (v := .int .i64 (i : Int)) rfl rfl F.one3 (fun a w ha => ha.old (hwcell k _ hwn 0 _ rfl) hbw) ?_
          refine lst_index (j := i) rfl rfl rfl Tryd.underlying22 F.ti24 rfl hi2 ?_
          refine lst_loadN_at (l := [.int .i64 (x.needs : Int), .int .i64 (x.no : Int), .int .i64 (x.takes : Int), .int .i64 (x.leaves : Int), .int .i64 (x.cost : Int)]) rfl rfl F.agg24 F.ti24 rfl (fun a w ha j u hu => ha.old (hcell i x hx j u hu) hb) ?_
          refine lst_move rfl rfl ?_
          refine lst_fn0 (vs := [_, _]) rfl rfl F.ent94 (fun a w ha => rafter_c x fk hxo hfk w) ?_
          refine lst_assign rfl rfl ?_
          refine lst_nil ?_
          refine ex_then ?_
          refine cod_region ?_
          refine lst_move rfl rfl ?_
          refine lst_move rfl rfl ?_
          refine lst_lit (vs := [(0, _)]) rfl rfl Tryd.underlying25 F.ti3 rfl rfl rfl ?_
          intro b56
          refine lst_append rfl rfl rfl Tryd.underlying25 F.ti3 rfl rfl rfl (by unfold maxLen; omega) (by omega) ?_
          intro A2 c2
          refine lst_assign rfl rfl ?_
          refine lst_nil ?_
          refine ex_block_normal ?_
          refine ex_then ?_
          refine cod_region ?_
          refine lst_move rfl rfl ?_
          refine lst_int rfl rfl rfl (fun w => bin_add w (wrap_i64' _ (by omega) (by omega))) ?_
          refine lst_assign rfl rfl ?_
          refine lst_nil ?_
          refine ex_round (k + 1, putN x fk, A2, c2, l1 ++ [putN x fk]) ⟨by omega, by simp; omega, putN_lt hxo hfk, hal⟩ (by (try dsimp only); omega) (by dsimp only; rw [List.length_append, List.length_singleton]; repeat (first | exact Sub.nil _ | refine Sub.cons rfl ?_)) (by dsimp only; rw [List.length_append, List.length_singleton, ints_snoc]; repeat (first | exact List.Sublist.refl _ | exact List.nil_sublist _ | refine List.Sublist.cons_cons _ ?_ | refine List.Sublist.cons _ ?_))
    · skip
      refine cod_exit ?_
      refine ex_then_exit ?_
      refine ex_then_exit ?_
      refine ex_block_exit ?_
      refine ex_then ?_
      refine cod_seq ?_
      refine cod_region ?_
      refine lst_move rfl rfl ?_
      refine lst_assign rfl rfl ?_
      refine lst_assign rfl rfl ?_
      refine lst_nil ?_
      refine ex_then ?_
      refine cod_ret ?_
      obtain rfl : k = way.length := by omega
      rw [List.drop_length] at hal
      have hal' : alongE ags f way = .ok l1 := by rw [hal]; show Except.ok (l1 ++ []) = _; rw [List.append_nil]
      exact ex_ret rfl (fun a w ha => res_two rfl rfl rfl ha) (fun a w ha => ⟨l1, 0, A1, c1, .inl ⟨hwl, hal', rfl, hl1⟩, rfl, ha.grown (by repeat (first | exact List.Sublist.refl _ | exact List.nil_sublist _ | refine List.Sublist.cons_cons _ ?_ | refine List.Sublist.cons _ ?_))⟩)

end Go.Proofs.YtofkhehcnfiopaaDoor.N
namespace Go.Proofs.YtofkhehcnfiopaaDoor.N
open Go Go.RowKit Go.Proofs
/-! What is asked of whatever agents: the program and the reference answer alike. -/
theorem askedR_zero {l : List RA} {m p : Int} (h : askedR l m p = 0) : checkR l = 0 ∧ inB m 0 63 = true ∧ inB p 0 63 = true := by
  unfold askedR at h
  by_cases hc : checkR l = 0
  · rw [if_neg (by simpa using hc)] at h
    refine ⟨hc, ?_⟩
    by_cases hb : (inB m 0 63 && inB p 0 63) = true
    · simpa using hb
    · rw [if_neg hb] at h; cases h
  · rw [if_pos hc] at h; exact absurd h hc
theorem askedR_check {l : List RA} {m p : Int} (h : checkR l ≠ 0) : askedR l m p = checkR l := by
  unfold askedR
  rw [if_pos h]
theorem askedR_one {l : List RA} {m p : Int} (h : checkR l = 0) (hb : inB m 0 63 = false ∨ inB p 0 63 = false) : askedR l m p = 1 := by
  unfold askedR
  rw [if_neg (by simpa using h), if_neg]
  intro hx
  rw [Bool.and_eq_true] at hx
  rcases hb with e | e
  · rw [e] at hx; cases hx.1
  · rw [e] at hx; cases hx.2
theorem nat_of_inB {m : Int} (h : inB m 0 63 = true) : ∃ f : Nat, m = (f : Int) ∧ f < 64 := by
  rw [inB_true] at h
  exact ⟨m.toNat, by omega, by omega⟩
theorem grew_nil {w w' : World} (h : Grew w w' []) : Grew w w' [.row 3 1 none ([] : List Nat).length 0 (ints [])] :=
  ⟨h.1, fun r hr => by simp at hr; subst hr; exact ⟨rfl, .inl ⟨rfl, rfl⟩⟩, List.nodup_nil⟩
def Says (w : World) (L : List Nat) (E : Nat) (e : Ending) (w' : World) : Prop := ∃ (A' : Option Addr) (c' : Nat), e = .returned (.tuple #[.slice A' L.length c', .int .i64 (E : Int)]) ∧ Grew w w' [.row 3 1 A' L.length c' (ints L)]
theorem Says.nil {w w' : World} {E : Nat} {e : Ending} (h : e = .returned (.tuple #[.slice none 0 0, .int .i64 (E : Int)]) ∧ Grew w w' []) : Says w [] E e w' := ⟨none, 0, h.1, grew_nil h.2⟩
/-- What Put answers. -/
def putR (l : List RA) (m : Int) (way : List Int) : List Nat × Nat :=
  if askedR l m 0 = 0 then (if 20 < way.length then ([], 6) else match alongE (agsOf l) m.toNat way with | .ok o => (o, 0) | .error c => ([], c)) else ([], askedR l m 0)
theorem PutS.is {l : List RA} {f E : Nat} {way : List Int} {outs : List Nat} (h0 : askedR l (f : Int) 0 = 0) (h : PutS (agsOf l) f way outs E) : putR l (f : Int) way = (outs, E) := by
  unfold putR
  rw [if_pos h0, Int.toNat_natCast]
  rcases h with ⟨h1, h2, h3, _⟩ | ⟨h1, h2, _, h4⟩ | ⟨h1, h2, h3⟩
  · rw [if_neg (by omega), h2, h3]
  · rw [if_neg (by omega), h2, h4]
  · rw [if_pos h1, h2, h3]
end Go.Proofs.YtofkhehcnfiopaaDoor.N
namespace Go.Proofs.YtofkhehcnfiopaaDoor.N
open Go Go.RowKit Go.Proofs
/-- A number of 64 bits. -/
def W64 (n : Int) : Prop := -9223372036854775808 ≤ n ∧ n ≤ 9223372036854775807
structure RA.wf (a : RA) : Prop where
  needs : W64 a.needs
  no : W64 a.no
  takes : W64 a.takes
  leaves : W64 a.leaves
  cost : W64 a.cost
def rv24 (a : RA) : Value := .agg a.cells.toArray
def ralits (a : RA) : List Go.Lit := [.int .i64 a.needs, .int .i64 a.no, .int .i64 a.takes, .int .i64 a.leaves, .int .i64 a.cost]
theorem kt24 : Tryd.prog.keyType 24 = true := by kernel_rfl
theorem co24 : Tryd.prog.cellsOf 24 = 5 := by kernel_rfl
theorem w64wf {n : Int} (h : W64 n) : (Go.Lit.int .i64 n).wf = true := by
  unfold W64 at h
  simp [Go.Lit.wf, IntKind.min, IntKind.max, IntKind.signed, IntKind.bits]
  omega
theorem keyLits_w64 {n : Int} (h : W64 n) (d : Nat) : Tryd.prog.keyLits (d + 1) 3 [.int .i64 n] = some [.int .i64 n] := by
  unfold Program.keyLits
  rw [Tryd.underlying3]
  simp [w64wf h]
theorem keyLits_ra {a : RA} (h : a.wf) (d : Nat) : Tryd.prog.keyLits (d + 1 + 1) 24 a.cells = some (ralits a) := by
  obtain ⟨h1, h2, h3, h4, h5⟩ := h
  conv => lhs; unfold Program.keyLits
  rw [Tryd.underlying24]
  simp [co24, co3, RA.cells, ralits, keyLits_w64 h1, keyLits_w64 h2, keyLits_w64 h3, keyLits_w64 h4, keyLits_w64 h5]
theorem keyOf_ra {a : RA} (h : a.wf) : keyOf Tryd.prog 24 (rv24 a) = some (.string (keyBytes (ralits a))) := by
  unfold keyOf
  rw [Tryd.underlying24]
  simp only [kt24, Bool.true_and]
  have hf : (rv24 a).formed Tryd.prog 24 = true := by
    simp [Value.formed, rv24, Tryd.underlying24, co24, RA.cells]
  rw [if_pos hf, tsz]
  have : (rv24 a).cells.toList = a.cells := rfl
  rw [this, keyLits_ra h]
  rfl
theorem run_neq_same {a : RA} (h : a.wf) (x y : Operand) (w : World) : (do eqGuard .neq 24 x y (rv24 a) (rv24 a); binOp .neq 24 (rv24 a) (rv24 a) : Sem Value).run Tryd.prog w = .ok (.bool false) w := by
  obtain ⟨r, hr, hiff⟩ := run_equal_deep (P := Tryd.prog) w (m := 2) (by omega) (k := 24) (by kernel_rfl) (by rw [Tryd.underlying24]) (keyOf_ra h) (keyOf_ra h)
  have hg : (eqGuard .neq 24 x y (rv24 a) (rv24 a)).run Tryd.prog w = .ok () w := by
    have h1 : Tryd.prog.eqGuardType Tryd.prog.depth 24 = false := by kernel_rfl
    have hp : (program : Sem Program).run Tryd.prog w = .ok Tryd.prog w := rfl
    simp only [eqGuard, rv24, Sem.run_bind, hp, Result.andThen_ok, h1]
    simp
  have hb : (binOp .neq 24 (rv24 a) (rv24 a)).run Tryd.prog w = .ok (.bool (!r)) w := by
    show (do pure (.bool (!(← Op.equal 24 (rv24 a) (rv24 a)))) : Sem Value).run Tryd.prog w = _
    simp only [Sem.run_bind, hr, Result.andThen_ok, Sem.run_pure]
  obtain rfl : r = true := hiff.2 rfl
  simp only [Sem.run_bind, hg, Result.andThen_ok, hb]
  rfl
end Go.Proofs.YtofkhehcnfiopaaDoor.N
namespace Go.Proofs.YtofkhehcnfiopaaDoor.N
open Go Go.RowKit Go.Proofs
theorem icell_one (n : Int) : ∀ u ∈ icell n, u.oneCell' = true := by
  intro u hu
  simp [icell] at hu
  subst hu
  simp [Value.oneCell']
end Go.Proofs.YtofkhehcnfiopaaDoor.N
namespace Go.Proofs.YtofkhehcnfiopaaDoor.N
open Go Go.RowKit Go.Proofs

theorem dupi_nil  (w : World) : Calls Tryd.prog 27 #[.slice none 0 0] w fun e w' => ∃ A' c', e = .returned (.slice A' 0 c') ∧ Grew w w' [.row 3 1 A' 0 c' []] := by
  refine enter (N := 6) [(0, .slice none 0 0)] Tryd.func27 rfl Tryd.ntmps27 rfl rfl ?_
  refine cod_seq ?_
  refine cod_region ?_
  refine lst_assign rfl rfl ?_
  refine lst_nil ?_
  refine ex_then ?_
  refine cod_seq ?_
  refine cod_region ?_
  refine lst_lit0 rfl Tryd.underlying25 F.ti3 ?_
  intro b3
  refine lst_as_row 1 (.head _) ?_
  refine lst_move rfl rfl ?_
  refine lst_append_none rfl rfl rfl Tryd.underlying25 F.ti3 (Nat.le_refl _) ?_
  refine lst_assign rfl rfl ?_
  refine lst_nil ?_
  refine ex_then ?_
  refine cod_ret ?_
  exact ex_ret rfl (fun a w ha => res_one rfl rfl ha) (fun a w ha => ⟨_, 0, rfl, ha.grown (by repeat (first | exact List.Sublist.refl _ | exact List.nil_sublist _ | refine List.Sublist.cons_cons _ ?_ | refine List.Sublist.cons _ ?_))⟩)

theorem dupi_some (p : Addr) (c : Nat) (l : List Int) (hl : l.length ≤ 400000) (w : World) (hA : RdL icell 1 w (some p) l) : Calls Tryd.prog 27 #[.slice (some p) l.length c] w fun e w' => ∃ A' c', e = .returned (.slice A' l.length c') ∧ Grew w w' [.row 3 1 A' l.length c' (l.flatMap icell)] := by
  refine enter (N := 6) [(0, .slice (some p) l.length c)] Tryd.func27 rfl Tryd.ntmps27 rfl rfl ?_
  refine cod_seq ?_
  refine cod_region ?_
  refine lst_assign rfl rfl ?_
  refine lst_nil ?_
  refine ex_then ?_
  refine cod_seq ?_
  refine cod_region ?_
  refine lst_lit0 rfl Tryd.underlying25 F.ti3 ?_
  intro b3
  refine lst_as_row 1 (.head _) ?_
  refine lst_move rfl rfl ?_
  refine lst_append_cells (cells := icell) rfl rfl rfl Tryd.underlying25 F.ti3 rfl rfl (fun _ => rfl) icell_one (fun a w ha => hA.later ha.below) rfl (by unfold maxLen; omega) (by omega) ?_
  intro A1 c1
  refine lst_assign rfl rfl ?_
  refine lst_nil ?_
  refine ex_then ?_
  refine cod_ret ?_
  simp only [Nat.zero_add, List.nil_append]
  exact ex_ret rfl (fun a w ha => res_one rfl rfl ha) (fun a w ha => ⟨A1, c1, rfl, ha.grown (by repeat (first | exact List.Sublist.refl _ | exact List.nil_sublist _ | refine List.Sublist.cons_cons _ ?_ | refine List.Sublist.cons _ ?_))⟩)

theorem dupi_c (A : Option Addr) (c : Nat) (l : List Int) (hl : l.length ≤ 400000) (w : World) (hn : A = none → l = [] ∧ c = 0) (hA : RdL icell 1 w A l) :
    Calls Tryd.prog 27 #[.slice A l.length c] w fun e w' => ∃ A' c', e = .returned (.slice A' l.length c') ∧ Grew w w' [.row 3 1 A' l.length c' (l.flatMap icell)] := by
  cases A with
  | none =>
    obtain ⟨rfl, rfl⟩ := hn rfl
    exact dupi_nil w
  | some p => exact dupi_some p c l hl w hA

theorem EqAgents_c (A B : Option Addr) (c d : Nat) (l : List RA) (hl : l.length ≤ 400000) (hwf : ∀ x ∈ l, x.wf) (w : World) (hA : RdL RA.cells 5 w A l) (hB : RdL RA.cells 5 w B l) : Calls Tryd.prog 33 #[.slice A l.length c, .slice B l.length d] w fun e w' => e = .returned (.bool true) ∧ Grew w w' [] := by
  refine enter (N := 32) [(0, .slice A l.length c), (1, .slice B l.length d)] Tryd.func33 rfl Tryd.ntmps33 rfl rfl ?_
  refine cod_seq ?_
  refine cod_region ?_
  refine lst_assign rfl rfl ?_
  refine lst_nil ?_
  refine ex_then ?_
  refine cod_seq ?_
  refine cod_seq ?_
  refine cod_region ?_
  refine lst_assign rfl rfl ?_
  refine lst_nil ?_
  refine ex_then ?_
  refine cod_block ?_
  refine cod_loop (G := Nat) (fun k => k ≤ l.length) (fun k => l.length - k) (fun k => [(0, .slice A l.length c), (1, .slice B l.length d), (5, .int .i64 (k : Int))]) (fun k => []) 0 (Nat.zero_le _) (by repeat (first | exact Sub.nil _ | refine Sub.cons rfl ?_)) (by repeat (first | exact List.Sublist.refl _ | exact List.nil_sublist _ | refine List.Sublist.cons_cons _ ?_ | refine List.Sublist.cons _ ?_)) ?_
  intro k hk
  (try dsimp only at hk ⊢)
  refine cod_seq ?_
  refine cod_seq ?_
  refine cod_region ?_
  refine lst_cut1 10 15 (.bool (decide ((k : Int) < (l.length : Int)))) ?_ ?_
  · skip
    refine lst_move rfl rfl ?_
    refine lst_move rfl rfl ?_
    refine lst_len rfl rfl Tryd.underlying22 ?_
    refine lst_int rfl rfl rfl bin_lss ?_
    refine lst_move rfl rfl ?_
    refine lst_split_bool (t := 10) rfl (fun hg10 => ?_) (fun hg10 => ?_)
    · skip
      refine lst_on rfl rfl ?_
      refine lst_move rfl rfl ?_
      refine lst_on rfl rfl ?_
      refine lst_move rfl rfl ?_
      refine lst_on rfl rfl ?_
      refine lst_len rfl rfl Tryd.underlying22 ?_
      refine lst_on rfl rfl ?_
      refine lst_int rfl rfl rfl bin_lss ?_
      refine lst_pick_true rfl rfl rfl ?_
      refine lst_nil ?_
      exact ex_cut (.cons (by simp_all [look]) (by repeat (first | exact Sub.nil _ | refine Sub.cons rfl ?_))) (by repeat (first | exact List.Sublist.refl _ | exact List.nil_sublist _ | refine List.Sublist.cons_cons _ ?_ | refine List.Sublist.cons _ ?_))
    · skip
      refine lst_off rfl rfl rfl ?_
      refine lst_off rfl rfl rfl ?_
      refine lst_off rfl rfl rfl ?_
      refine lst_off rfl rfl rfl ?_
      refine lst_pick_false rfl rfl rfl ?_
      refine lst_nil ?_
      exact ex_cut (.cons (by simp_all [look]) (by repeat (first | exact Sub.nil _ | refine Sub.cons rfl ?_))) (by repeat (first | exact List.Sublist.refl _ | exact List.nil_sublist _ | refine List.Sublist.cons_cons _ ?_ | refine List.Sublist.cons _ ?_))
  refine lst_nil ?_
  refine ex_then ?_
  refine cod_cond_bool rfl (fun hc0 => ?_) (fun hc0 => ?_)
  · skip
    have hk' : k < l.length := by have := of_decide_eq_true hc0; omega
    obtain ⟨b, o, rfl, hb, hcell⟩ := hA (by omega)
    obtain ⟨b2, o2, rfl, hb2, hcell2⟩ := hB (by omega)
    obtain ⟨x, hx⟩ : ∃ x, l[k]? = some x := ⟨_, List.getElem?_eq_getElem hk'⟩
    have hxw := hwf x (List.mem_of_getElem? hx)
    refine cod_skip ?_
    refine ex_then ?_
    refine cod_seq ?_
    refine cod_block ?_
    refine cod_seq ?_
    refine any_begin [] F.follows 9 rfl [false, false, false, false, false, false, false, false, false] rfl ?_
    refine any_take (listed' := [true, false, false, false, false, false, false, false, false].toArray) 0 rfl rfl rfl (by kernel_rfl) (by kernel_rfl) (by kernel_rfl) (by repeat (first | exact List.Sublist.refl _ | exact List.nil_sublist _ | refine List.Sublist.cons_cons _ ?_ | refine List.Sublist.cons _ ?_)) (yld_move rfl) rfl ?_
    refine any_take (listed' := [true, true, false, false, false, false, false, false, false].toArray) 1 rfl rfl rfl (by kernel_rfl) (by kernel_rfl) (by kernel_rfl) (by repeat (first | exact List.Sublist.refl _ | exact List.nil_sublist _ | refine List.Sublist.cons_cons _ ?_ | refine List.Sublist.cons _ ?_)) (yld_move rfl) rfl ?_
    refine any_take (listed' := [true, true, true, false, false, false, false, false, false].toArray) 2 rfl rfl rfl (by kernel_rfl) (by kernel_rfl) (by kernel_rfl) (by repeat (first | exact List.Sublist.refl _ | exact List.nil_sublist _ | refine List.Sublist.cons_cons _ ?_ | refine List.Sublist.cons _ ?_)) (yld_index (j := k) rfl rfl Tryd.underlying22 F.ti24 rfl hk') rfl ?_
    refine any_take (listed' := [true, true, true, true, false, false, false, false, false].toArray) 3 rfl rfl rfl (by kernel_rfl) (by kernel_rfl) (by kernel_rfl) (by repeat (first | exact List.Sublist.refl _ | exact List.nil_sublist _ | refine List.Sublist.cons_cons _ ?_ | refine List.Sublist.cons _ ?_)) (yld_loadN_at (l := [.int .i64 x.needs, .int .i64 x.no, .int .i64 x.takes, .int .i64 x.leaves, .int .i64 x.cost]) rfl F.agg24 F.ti24 rfl (fun a w ha j u hu => ha.old (hcell k x hx j u hu) hb)) rfl ?_
    refine any_take (listed' := [true, true, true, true, true, false, false, false, false].toArray) 4 rfl rfl rfl (by kernel_rfl) (by kernel_rfl) (by kernel_rfl) (by repeat (first | exact List.Sublist.refl _ | exact List.nil_sublist _ | refine List.Sublist.cons_cons _ ?_ | refine List.Sublist.cons _ ?_)) (yld_move rfl) rfl ?_
    refine any_take (listed' := [true, true, true, true, true, true, false, false, false].toArray) 5 rfl rfl rfl (by kernel_rfl) (by kernel_rfl) (by kernel_rfl) (by repeat (first | exact List.Sublist.refl _ | exact List.nil_sublist _ | refine List.Sublist.cons_cons _ ?_ | refine List.Sublist.cons _ ?_)) (yld_move rfl) rfl ?_
    refine any_take (listed' := [true, true, true, true, true, true, true, false, false].toArray) 6 rfl rfl rfl (by kernel_rfl) (by kernel_rfl) (by kernel_rfl) (by repeat (first | exact List.Sublist.refl _ | exact List.nil_sublist _ | refine List.Sublist.cons_cons _ ?_ | refine List.Sublist.cons _ ?_)) (yld_index (j := k) rfl rfl Tryd.underlying22 F.ti24 rfl hk') rfl ?_
    refine any_take (listed' := [true, true, true, true, true, true, true, true, false].toArray) 7 rfl rfl rfl (by kernel_rfl) (by kernel_rfl) (by kernel_rfl) (by repeat (first | exact List.Sublist.refl _ | exact List.nil_sublist _ | refine List.Sublist.cons_cons _ ?_ | refine List.Sublist.cons _ ?_)) (yld_loadN_at (l := [.int .i64 x.needs, .int .i64 x.no, .int .i64 x.takes, .int .i64 x.leaves, .int .i64 x.cost]) rfl F.agg24 F.ti24 rfl (fun a w ha j u hu => ha.old (hcell2 k x hx j u hu) hb2)) rfl ?_
    refine any_take (listed' := [true, true, true, true, true, true, true, true, true].toArray) 8 rfl rfl rfl (by kernel_rfl) (by kernel_rfl) (by kernel_rfl) (by repeat (first | exact List.Sublist.refl _ | exact List.nil_sublist _ | refine List.Sublist.cons_cons _ ?_ | refine List.Sublist.cons _ ?_)) (yld_bin rfl rfl (run_neq_same hxw _ _)) rfl ?_
    refine any_done rfl (by kernel_rfl) ?_
    refine ex_then ?_
    refine cod_cond_false rfl ?_
    refine cod_skip ?_
    refine ex_block_normal ?_
    refine ex_then ?_
    refine cod_region ?_
    refine lst_move rfl rfl ?_
    refine lst_int rfl rfl rfl (fun w => bin_add w (wrap_i64' _ (by omega) (by omega))) ?_
    refine lst_assign rfl rfl ?_
    refine lst_nil ?_
    refine ex_round (k + 1) (by (try dsimp only); omega) (by (try dsimp only); omega) (by repeat (first | exact Sub.nil _ | refine Sub.cons rfl ?_)) (by repeat (first | exact List.Sublist.refl _ | exact List.nil_sublist _ | refine List.Sublist.cons_cons _ ?_ | refine List.Sublist.cons _ ?_))
  · skip
    refine cod_exit ?_
    refine ex_then_exit ?_
    refine ex_then_exit ?_
    refine ex_block_exit ?_
    refine ex_then ?_
    refine cod_seq ?_
    refine cod_region ?_
    refine lst_move rfl rfl ?_
    refine lst_len rfl rfl Tryd.underlying22 ?_
    refine lst_move rfl rfl ?_
    refine lst_len rfl rfl Tryd.underlying22 ?_
    refine lst_int (v := .bool true) rfl rfl rfl (fun w => by rw [bin_eql]; simp) ?_
    refine lst_assign rfl rfl ?_
    refine lst_nil ?_
    refine ex_then ?_
    refine cod_ret ?_
    exact ex_ret rfl (fun a w ha => res_one rfl rfl ha) (fun a w ha => ⟨rfl, ha.grown (List.nil_sublist _)⟩)

end Go.Proofs.YtofkhehcnfiopaaDoor.N
namespace Go.Proofs.YtofkhehcnfiopaaDoor.N
open Go Go.RowKit Go.Proofs
section
variable {C : Ctx} {fr : List (Nat × Value)} {hp hp' : List Res} {ops : Array Oper} {Q : Exit → Act → World → Prop} {rest : List Oper}
  {d : Nat} {ty : TypeId} {pos : String} {after : Array Edge}
/-- A call that turns a block of the caller's and hands back something new. -/
theorem lst_call_pul1 {X : Type} (b : Nat) {o : Obj} (o' : X → Obj) (r : X → Res) {T : List Res} {f : FuncId} {vs : List Value} {args : Array Operand} {ts : Array TypeId} (p : X → Prop) (val : X → Value) [hq : Pul b o hp T] (hd : Nat.blt d C.N = true)
    (hargs : args.toList.map (ev fr) = vs.map some) (hf : Enters C.P f)
    (hc : ∀ a w, At C fr (.blk b o :: T) a w → Calls C.P f vs.toArray w fun e w' => ∃ y, p y ∧ e = .returned (val y) ∧ At C fr (r y :: .blk b (o' y) :: T) a w')
    (k : ∀ y, p y → Lst C ops Q rest ((d, val y) :: fr) (r y :: .blk b (o' y) :: T)) : Lst C ops Q (⟨some d, .call { callee := .value (.func f), args := args, argTypes := ts }, ty, pos, after, none⟩ :: rest) fr hp := by
  refine lst_call (first := []) (cap := []) (p := p) (val := val) (rs := fun y => r y :: .blk b (o' y) :: T) hd rfl hargs hf (fun a w ha => ?_) k
  simp only [List.nil_append, List.append_nil]
  exact hc a w (ha.permed hq.perm)
end
end Go.Proofs.YtofkhehcnfiopaaDoor.N
namespace Go.Proofs.YtofkhehcnfiopaaDoor.N
open Go Go.RowKit Go.Proofs
theorem F.ti22 : TI Tryd.prog 22 (.slice none 0 0) 1 24 := TI.of (by kernel_rfl)
theorem several_c {C : Ctx} {fr : List (Nat × Value)} {T : List Res} {a : Act} {w : World} (hC : C.P = Tryd.prog) {hb tk st nc : Nat} {nA : Option Addr} {nums : List Int} (hB : C.w0.heap.size = C.B) (hN : RdL icell 1 C.w0 nA nums) (htk : tk ≤ 900000) (hst : st < 18446744073709551616) {A : Option Addr} {n c : Nat} {x : RA} (ha : At C fr (.blk hb (hatO nA nums.length nc (tk) (st)) :: T) a w) : Calls C.P 23 #[.slice A n c, .agg [.int .i64 x.needs, .int .i64 x.no, .int .i64 x.takes, .int .i64 x.leaves, .int .i64 x.cost].toArray, .pointer (some ⟨hb, 0, none⟩)] w fun e w' => ∃ (tk' st' b : Nat) (l1 l2 : List Ag) (A1 A2 : Option Addr) (c1 c2 : Nat), tk' ≤ tk + 400 ∧ st' < 18446744073709551616 ∧ l1.length ≤ 4 ∧ (∀ y ∈ l1, y.ok) ∧ l2.length ≤ 3 ∧ (∀ y ∈ l2, y.ok) ∧ e = .returned (.slice (some ⟨b, 0, none⟩) 3 3) ∧ At C fr (.blk b (.cells [.slice A n c, .slice A1 l1.length c1, .slice A2 (l2.length + 1) c2].toArray 22 (0, 0)) :: .row 24 5 A1 l1.length c1 (l1.flatMap Ag.cells) :: .row 24 5 A2 (l2.length + 1) c2 (l2.flatMap Ag.cells ++ [.int .i64 x.needs, .int .i64 x.no, .int .i64 x.takes, .int .i64 x.leaves, .int .i64 x.cost]) :: .blk hb (hatO nA nums.length nc (tk') (st')) :: T) a w' := by
  obtain ⟨P, B, w0, N0, ds⟩ := C
  obtain rfl : P = Tryd.prog := hC
  (try dsimp only at hB)
  (try dsimp only at hN)
  refine enter_in (N := 18) [(0, .slice A n c), (1, .agg [.int .i64 x.needs, .int .i64 x.no, .int .i64 x.takes, .int .i64 x.leaves, .int .i64 x.cost].toArray), (2, .pointer (some ⟨hb, 0, none⟩))] ha Tryd.func23 rfl Tryd.ntmps23 rfl rfl ?_
  refine cod_seq ?_
  refine cod_region ?_
  refine lst_box rfl rfl ?_
  intro b4
  refine lst_assign rfl rfl ?_
  refine lst_nil ?_
  refine ex_then ?_
  refine cod_seq ?_
  refine cod_region ?_
  refine lst_move rfl rfl ?_
  refine lst_call_pul1 (X := Nat × Nat × List Ag × Option Addr × Nat) (vs := [_, _, _]) hb (fun y => hatO nA nums.length nc y.1 y.2.1) (fun y => .row 24 5 y.2.2.2.1 y.2.2.1.length y.2.2.2.2 (y.2.2.1.flatMap Ag.cells)) (fun y => y.1 ≤ tk + 200 ∧ y.2.1 < 18446744073709551616 ∧ y.2.2.1.length ≤ 4 ∧ ∀ x ∈ y.2.2.1, x.ok) (fun y => .slice y.2.2.2.1 y.2.2.1.length y.2.2.2.2) rfl rfl F.ent34 (fun a w ha => (AgentsOf_c (C := ⟨Tryd.prog, B, w0, _, _⟩) rfl hB hN (tk := tk) (st := st) (many := 4) (few := 4) (by omega) (by omega) (by omega) (by omega) (by omega) ha).mono (fun e w' h => by obtain ⟨t', s', l, A', c', h1, h2, h3, h4, h5, h6⟩ := h; exact ⟨(t', s', l, A', c'), ⟨by (try dsimp only); omega, h2, h3, h4⟩, h5, h6⟩)) ?_
  rintro ⟨t1, s1, l1, A1, c1⟩ ⟨ht1, hs1, hl1, ho1⟩
  dsimp only at ht1 hs1 hl1 ho1 ⊢
  refine lst_assign rfl rfl ?_
  refine lst_nil ?_
  refine ex_then ?_
  refine cod_seq ?_
  refine any_begin [.b hb] F.follows 9 rfl [false, false, false, false, false, false, false, false, false] rfl ?_
  refine any_take (listed' := [true, false, false, false, false, false, false, false, false].toArray) 0 rfl rfl rfl (by kernel_rfl) (by kernel_rfl) (by kernel_rfl) (by repeat (first | exact List.Sublist.refl _ | exact List.nil_sublist _ | refine List.Sublist.cons_cons _ ?_ | refine List.Sublist.cons _ ?_)) (yld_move rfl) rfl ?_
  refine any_take (listed' := [true, true, false, false, false, false, false, false, false].toArray) 1 rfl rfl rfl (by kernel_rfl) (by kernel_rfl) (by kernel_rfl) (by repeat (first | exact List.Sublist.refl _ | exact List.nil_sublist _ | refine List.Sublist.cons_cons _ ?_ | refine List.Sublist.cons _ ?_)) (yld_move rfl) rfl ?_
  refine any_take (listed' := [true, true, true, false, false, false, false, false, false].toArray) 2 rfl rfl rfl (by kernel_rfl) (by kernel_rfl) (by kernel_rfl) (by repeat (first | exact List.Sublist.refl _ | exact List.nil_sublist _ | refine List.Sublist.cons_cons _ ?_ | refine List.Sublist.cons _ ?_)) (yld_move rfl) rfl ?_
  refine any_take (listed' := [true, true, true, false, true, false, false, false, false].toArray) 4 rfl rfl rfl (by kernel_rfl) (by kernel_rfl) (by kernel_rfl) (by repeat (first | exact List.Sublist.refl _ | exact List.nil_sublist _ | refine List.Sublist.cons_cons _ ?_ | refine List.Sublist.cons _ ?_)) (yld_loadN rfl F.agg24 F.ti24) rfl ?_
  refine any_two (l1 := [true, true, true, true, true, false, false, false, false].toArray) (l2 := [true, true, true, false, true, true, false, false, false].toArray) 3 5 (by kernel_rfl) rfl rfl rfl rfl ?_ ?_
  · skip
    refine lst_call_pul1 (X := Nat × Nat × List Ag × Option Addr × Nat) (vs := [_, _, _]) hb (fun y => hatO nA nums.length nc y.1 y.2.1) (fun y => .row 24 5 y.2.2.2.1 y.2.2.1.length y.2.2.2.2 (y.2.2.1.flatMap Ag.cells)) (fun y => y.1 ≤ tk + 400 ∧ y.2.1 < 18446744073709551616 ∧ y.2.2.1.length ≤ 3 ∧ ∀ x ∈ y.2.2.1, x.ok) (fun y => .slice y.2.2.2.1 y.2.2.1.length y.2.2.2.2) rfl rfl F.ent34 (fun a w ha => (AgentsOf_c (C := ⟨Tryd.prog, B, w0, _, _⟩) rfl hB hN (tk := t1) (st := s1) (many := 3) (few := 3) (by omega) (by omega) (by omega) (by omega) (by omega) ha).mono (fun e w' h => by obtain ⟨t', s', l, A', c', h1, h2, h3, h4, h5, h6⟩ := h; exact ⟨(t', s', l, A', c'), ⟨by (try dsimp only); omega, h2, h3, h4⟩, h5, h6⟩)) ?_
    rintro ⟨t2, s2, l2, A2, c2⟩ ⟨ht2, hs2, hl2, ho2⟩
    dsimp only at ht2 hs2 hl2 ho2 ⊢
    refine lst_nil ?_
    refine any_next (by repeat (first | exact List.Sublist.refl _ | exact List.nil_sublist _ | refine List.Sublist.cons_cons _ ?_ | refine List.Sublist.cons _ ?_)) ?_
    refine any_one (listed' := [true, true, true, true, true, true, false, false, false].toArray) 5 (by kernel_rfl) rfl rfl ?_
    refine lst_litN (vs := [(0, _)]) [_, _, _, _, _] rfl rfl Tryd.underlying22 F.ti24 rfl rfl rfl ⟨rfl, [_, _, _, _, _], [], rfl, rfl, rfl, rfl⟩ ?_
    intro b15
    refine lst_nil ?_
    refine any_next (by repeat (first | exact List.Sublist.refl _ | exact List.nil_sublist _ | refine List.Sublist.cons_cons _ ?_ | refine List.Sublist.cons _ ?_)) ?_
    refine any_one (listed' := [true, true, true, true, true, true, true, false, false].toArray) 6 (by kernel_rfl) rfl rfl ?_
    refine lst_append rfl rfl rfl Tryd.underlying22 F.ti24 rfl rfl rfl (by unfold maxLen; omega) (by omega) ?_
    intro A3 c3
    refine lst_nil ?_
    refine any_next (by repeat (first | exact List.Sublist.refl _ | exact List.nil_sublist _ | refine List.Sublist.cons_cons _ ?_ | refine List.Sublist.cons _ ?_)) ?_
    refine any_one (listed' := [true, true, true, true, true, true, true, true, false].toArray) 7 (by kernel_rfl) rfl rfl ?_
    refine lst_lit (vs := [(0, _), (1, _), (2, _)]) rfl rfl Tryd.underlying29 F.ti22 rfl rfl rfl ?_
    intro b17
    refine lst_nil ?_
    refine any_next (by repeat (first | exact List.Sublist.refl _ | exact List.nil_sublist _ | refine List.Sublist.cons_cons _ ?_ | refine List.Sublist.cons _ ?_)) ?_
    refine any_take (listed' := [true, true, true, true, true, true, true, true, true].toArray) 8 rfl rfl rfl (by kernel_rfl) (by kernel_rfl) (by kernel_rfl) (by repeat (first | exact List.Sublist.refl _ | exact List.nil_sublist _ | refine List.Sublist.cons_cons _ ?_ | refine List.Sublist.cons _ ?_)) (yld_assign rfl) rfl ?_
    refine any_done rfl (by kernel_rfl) ?_
    refine ex_then ?_
    refine cod_ret ?_
    exact ex_ret rfl (fun a w ha => res_one rfl rfl ha) (fun _ _ ha' => ⟨t2, s2, b17, l1, l2, A1, A3, c1, c3, ht2, hs2, hl1, ho1, hl2, ho2, rfl, ha.back (ha'.pck (by repeat (first | exact Pck.nil _ | exact Pck.refl _ | (apply Pck.cons; focus ((repeat (first | exact Rem.here _ | apply Rem.there)); done)) | refine Pck.skip _ ?_)))⟩)
  · skip
    refine lst_litN (vs := [(0, _)]) [_, _, _, _, _] rfl rfl Tryd.underlying22 F.ti24 rfl rfl rfl ⟨rfl, [_, _, _, _, _], [], rfl, rfl, rfl, rfl⟩ ?_
    intro b15
    refine lst_nil ?_
    refine any_next (by repeat (first | exact List.Sublist.refl _ | exact List.nil_sublist _ | refine List.Sublist.cons_cons _ ?_ | refine List.Sublist.cons _ ?_)) ?_
    refine any_one (listed' := [true, true, true, true, true, true, false, false, false].toArray) 3 (by kernel_rfl) rfl rfl ?_
    refine lst_call_pul1 (X := Nat × Nat × List Ag × Option Addr × Nat) (vs := [_, _, _]) hb (fun y => hatO nA nums.length nc y.1 y.2.1) (fun y => .row 24 5 y.2.2.2.1 y.2.2.1.length y.2.2.2.2 (y.2.2.1.flatMap Ag.cells)) (fun y => y.1 ≤ tk + 400 ∧ y.2.1 < 18446744073709551616 ∧ y.2.2.1.length ≤ 3 ∧ ∀ x ∈ y.2.2.1, x.ok) (fun y => .slice y.2.2.2.1 y.2.2.1.length y.2.2.2.2) rfl rfl F.ent34 (fun a w ha => (AgentsOf_c (C := ⟨Tryd.prog, B, w0, _, _⟩) rfl hB hN (tk := t1) (st := s1) (many := 3) (few := 3) (by omega) (by omega) (by omega) (by omega) (by omega) ha).mono (fun e w' h => by obtain ⟨t', s', l, A', c', h1, h2, h3, h4, h5, h6⟩ := h; exact ⟨(t', s', l, A', c'), ⟨by (try dsimp only); omega, h2, h3, h4⟩, h5, h6⟩)) ?_
    rintro ⟨t2, s2, l2, A2, c2⟩ ⟨ht2, hs2, hl2, ho2⟩
    dsimp only at ht2 hs2 hl2 ho2 ⊢
    refine lst_nil ?_
    refine any_next (by repeat (first | exact List.Sublist.refl _ | exact List.nil_sublist _ | refine List.Sublist.cons_cons _ ?_ | refine List.Sublist.cons _ ?_)) ?_
    refine any_one (listed' := [true, true, true, true, true, true, true, false, false].toArray) 6 (by kernel_rfl) rfl rfl ?_
    refine lst_append rfl rfl rfl Tryd.underlying22 F.ti24 rfl rfl rfl (by unfold maxLen; omega) (by omega) ?_
    intro A3 c3
    refine lst_nil ?_
    refine any_next (by repeat (first | exact List.Sublist.refl _ | exact List.nil_sublist _ | refine List.Sublist.cons_cons _ ?_ | refine List.Sublist.cons _ ?_)) ?_
    refine any_one (listed' := [true, true, true, true, true, true, true, true, false].toArray) 7 (by kernel_rfl) rfl rfl ?_
    refine lst_lit (vs := [(0, _), (1, _), (2, _)]) rfl rfl Tryd.underlying29 F.ti22 rfl rfl rfl ?_
    intro b17
    refine lst_nil ?_
    refine any_next (by repeat (first | exact List.Sublist.refl _ | exact List.nil_sublist _ | refine List.Sublist.cons_cons _ ?_ | refine List.Sublist.cons _ ?_)) ?_
    refine any_take (listed' := [true, true, true, true, true, true, true, true, true].toArray) 8 rfl rfl rfl (by kernel_rfl) (by kernel_rfl) (by kernel_rfl) (by repeat (first | exact List.Sublist.refl _ | exact List.nil_sublist _ | refine List.Sublist.cons_cons _ ?_ | refine List.Sublist.cons _ ?_)) (yld_assign rfl) rfl ?_
    refine any_done rfl (by kernel_rfl) ?_
    refine ex_then ?_
    refine cod_ret ?_
    exact ex_ret rfl (fun a w ha => res_one rfl rfl ha) (fun _ _ ha' => ⟨t2, s2, b17, l1, l2, A1, A3, c1, c3, ht2, hs2, hl1, ho1, hl2, ho2, rfl, ha.back (ha'.pck (by repeat (first | exact Pck.nil _ | exact Pck.refl _ | (apply Pck.cons; focus ((repeat (first | exact Rem.here _ | apply Rem.there)); done)) | refine Pck.skip _ ?_)))⟩)

end Go.Proofs.YtofkhehcnfiopaaDoor.N
namespace Go.Proofs.YtofkhehcnfiopaaDoor.N
open Go Go.RowKit Go.Proofs
theorem sel_ex {P : Option Addr → Nat → List RA → Prop} {A0 A1 A2 : Option Addr} {c0 c1 c2 : Nat} {L0 L1 L2 : List RA} (h0 : P A0 c0 L0) (h1 : P A1 c1 L1) (h2 : P A2 c2 L2) {i : Nat} (hi : i < 3) :
    ∃ A c L, ([.slice A0 L0.length c0, .slice A1 L1.length c1, .slice A2 L2.length c2] : List Value)[i]? = some (.slice A L.length c) ∧ P A c L := by
  rcases (show i = 0 ∨ i = 1 ∨ i = 2 by omega) with rfl | rfl | rfl
  · exact ⟨A0, c0, L0, rfl, h0⟩
  · exact ⟨A1, c1, L1, rfl, h1⟩
  · exact ⟨A2, c2, L2, rfl, h2⟩
theorem raw_cells (l : List Ag) : (l.map Ag.raw).flatMap RA.cells = l.flatMap Ag.cells := by
  induction l with
  | nil => rfl
  | cons x l ih => rw [List.map_cons, List.flatMap_cons, List.flatMap_cons, ih]; rfl
theorem raw_wf {x : Ag} (h : x.ok) : x.raw.wf := by
  obtain ⟨h1, h2, h3, h4, _, h5⟩ := h
  refine ⟨?_, ?_, ?_, ?_, ?_⟩ <;> unfold W64 Ag.raw <;> dsimp only <;> omega
theorem Rds.ag {C : Ctx} {T : List Res} {A : Option Addr} {l : List RA} (hc : checkR l = 0) (h : Rds RA.cells 5 C T A l) : Rds Ag.cells 5 C T A (agsOf l) :=
  fun C' fr hp a w ha h1 h2 h3 hm => (h C' fr hp a w ha h1 h2 h3 hm).ag hc
theorem Rds.sub {α : Type} {cells : α → List Value} {size : Nat} {C : Ctx} {T T' : List Res} {A : Option Addr} {l : List α} (h : Rds cells size C T A l) (hs : ∀ r ∈ T, r ∈ T') : Rds cells size C T' A l :=
  fun C' fr hp a w ha h1 h2 h3 hm => h C' fr hp a w ha h1 h2 h3 (fun r hr => hm r (hs r hr))
end Go.Proofs.YtofkhehcnfiopaaDoor.N
namespace Go.Proofs.YtofkhehcnfiopaaDoor.N
open Go Go.RowKit Go.Proofs
theorem F.ent23 : Enters Tryd.prog 23 := enters_of Tryd.func23 rfl (by kernel_rfl)
theorem F.ent33 : Enters Tryd.prog 33 := enters_of Tryd.func33 rfl (by kernel_rfl)
theorem F.ent45 : Enters Tryd.prog 45 := enters_of Tryd.func45 rfl (by kernel_rfl)
theorem F.one22 : One Tryd.prog 22 := ⟨by unfold aggB; rw [Tryd.underlying22], by rw [Tryd.underlying22]; simp⟩
end Go.Proofs.YtofkhehcnfiopaaDoor.N
namespace Go.Proofs.YtofkhehcnfiopaaDoor.N
open Go Go.RowKit Go.Proofs
/-! How many agents the shortest ways have: what rounds that go on in place come to. -/
def farN : Nat := 1048576
variable {ags : List Ag} {used p : Nat}
structure RI (ags : List Ag) (used p r m i : Nat) (L : List Nat) : Prop where
  len : L.length = 64
  le : ∀ f, f < 64 → L.getD f 0 ≤ farN
  snd : ∀ f, f < 64 → L.getD f 0 < farN → ∃ c, Wy ags used p f c (L.getD f 0)
  cmp : ∀ f, f < 64 → ∀ c k, Wy ags used p f c k → (k ≤ r ∨ (k ≤ r + 1 ∧ f < m)) → L.getD f 0 ≤ k
  cur : ∀ j, j < i → j ∈ canTo ags used m ags.length → ∀ c k, Wy ags used p (putN (ags.getD j default) m) c k → k ≤ r → L.getD m 0 ≤ k + 1
/-- What the rounds begin with. -/
def initN (p k : Nat) : List Nat := (List.range 64).map fun f => if f < k then (if nn f p = 0 then 0 else farN) else 0
theorem initN_len (p k : Nat) : (initN p k).length = 64 := by simp [initN]
theorem getN_set {L : List Nat} {f g x : Nat} (hf : f < L.length) : (L.set f x).getD g 0 = if f = g then x else L.getD g 0 := by
  rw [List.getD_eq_getElem?_getD, List.getElem?_set, List.getD_eq_getElem?_getD]
  by_cases e : f = g
  · subst e
    rw [if_pos rfl, if_pos rfl, if_pos hf]; rfl
  · rw [if_neg e, if_neg e]
theorem initN_getD {p f : Nat} (hf : f < 64) : (initN p 64).getD f 0 = if nn f p = 0 then 0 else farN := by
  simp [initN, List.getD_eq_getElem?_getD, hf]
theorem RI.start : RI ags used p 0 0 0 (initN p 64) where
  len := initN_len p 64
  le f hf := by rw [initN_getD hf]; split <;> simp [farN]
  snd f hf h := by
    rw [initN_getD hf] at h ⊢
    by_cases h0 : nn f p = 0
    · rw [if_pos h0]; exact ⟨0, .done h0⟩
    · rw [if_neg h0] at h; exact absurd h (Nat.lt_irrefl _)
  cmp f hf c k h hk := by
    have hk0 : k = 0 := by omega
    subst hk0
    rw [initN_getD hf]
    cases h with
    | done h0 => rw [if_pos h0]; exact Nat.le_refl _
  cur j hj := absurd hj (Nat.not_lt_zero _)
theorem RI.skip {r m i : Nat} {L : List Nat} (h : RI ags used p r m i L) (hi : i ∉ canTo ags used m ags.length) : RI ags used p r m (i + 1) L :=
  { h with
    cur := fun j hj hc => by
      rcases Nat.lt_succ_iff_lt_or_eq.1 hj with h1 | rfl
      · exact h.cur j h1 hc
      · exact absurd hc hi }
theorem RI.put {r m i : Nat} {L : List Nat} (hok : Oks ags) (h : RI ags used p r m i L) (hm : m < 64) (hi : i ∈ canTo ags used m ags.length) :
    RI ags used p r m (i + 1) (L.set m (min (L.getD m 0) (1 + L.getD (putN (ags.getD i default) m) 0))) := by
  have hil := (can_mem.1 hi).1
  have hxo : (ags.getD i default).ok := hok.2 _ (by rw [List.getD_eq_getElem?_getD, List.getElem?_eq_getElem hil]; exact List.getElem_mem hil)
  have hg : putN (ags.getD i default) m < 64 := putN_lt hxo hm
  have hml : m < L.length := by rw [h.len]; exact hm
  have dec : ∀ f, (L.set m (min (L.getD m 0) (1 + L.getD (putN (ags.getD i default) m) 0))).getD f 0 ≤ L.getD f 0 := fun f => by
    rw [getN_set hml]
    by_cases e : m = f
    · subst e; rw [if_pos rfl]; exact Nat.min_le_left _ _
    · rw [if_neg e]; exact Nat.le_refl _
  refine ⟨by rw [List.length_set]; exact h.len, fun f hf => Nat.le_trans (dec f) (h.le f hf), fun f hf hlt => ?_, fun f hf c k hw hk => Nat.le_trans (dec f) (h.cmp f hf c k hw hk), fun j hj hc c k hw hk => ?_⟩
  · rw [getN_set hml] at hlt ⊢
    by_cases e : m = f
    · subst e
      rw [if_pos rfl] at hlt ⊢
      rcases Nat.le_total (L.getD m 0) (1 + L.getD (putN (ags.getD i default) m) 0) with h1 | h1
      · rw [Nat.min_eq_left h1] at hlt ⊢
        exact h.snd m hm hlt
      · rw [Nat.min_eq_right h1] at hlt ⊢
        obtain ⟨c, hc⟩ := h.snd _ hg (by omega)
        rw [Nat.add_comm]
        exact ⟨_, .step hi hc⟩
    · rw [if_neg e] at hlt ⊢
      exact h.snd f hf hlt
  · rcases Nat.lt_succ_iff_lt_or_eq.1 hj with h1 | rfl
    · exact Nat.le_trans (dec m) (h.cur j h1 hc c k hw hk)
    · rw [getN_set hml, if_pos rfl]
      have := h.cmp _ hg c k hw (.inl hk)
      omega
theorem RI.next {r m : Nat} {L : List Nat} (h : RI ags used p r m ags.length L) (hm : m < 64) : RI ags used p r (m + 1) 0 L :=
  { h with
    cmp := fun f hf c k hw hk => by
      by_cases h0 : k ≤ r ∨ (k ≤ r + 1 ∧ f < m)
      · exact h.cmp f hf c k hw h0
      · have hfm : f = m := by omega
        subst hfm
        cases hw with
        | done h1 => exact h.cmp f hf 0 0 (.done h1) (.inl (Nat.zero_le _))
        | step hi hw' => exact h.cur _ (can_mem.1 hi).1 hi _ _ hw' (by omega)
    cur := fun j hj => absurd hj (Nat.not_lt_zero _) }
theorem RI.round {r : Nat} {L : List Nat} (h : RI ags used p r 64 0 L) : RI ags used p (r + 1) 0 0 L :=
  { h with
    cmp := fun f hf c k hw hk => h.cmp f hf c k hw (by omega)
    cur := fun j hj => absurd hj (Nat.not_lt_zero _) }
/-- What the reference's numbers say of each melt. -/
structure Dst (ags : List Ag) (used p : Nat) (L : List Nat) : Prop where
  len : L.length = 64
  far : ∀ f, f < 64 → (L.getD f 0 = farN ↔ ¬ Clr ags used p f)
  way : ∀ f, f < 64 → L.getD f 0 ≠ farN → L.getD f 0 ≤ 63 ∧ (∃ c, Wy ags used p f c (L.getD f 0)) ∧ ∀ c k, Wy ags used p f c k → L.getD f 0 ≤ k
theorem RI.dst {L : List Nat} (hok : Oks ags) (h : RI ags used p 64 0 0 L) : Dst ags used p L := by
  have short : ∀ f, f < 64 → Clr ags used p f → L.getD f 0 ≤ 63 ∧ ∀ c k, Wy ags used p f c k → L.getD f 0 ≤ k := fun f hf ⟨c, k, hw⟩ => by
    obtain ⟨c', k', ho⟩ := Opt.ex hw
    have h63 := Opt.short hok hf ho
    have h1 := h.cmp f hf _ _ ho.1 (.inl (by omega))
    refine ⟨by omega, fun c2 k2 hw2 => ?_⟩
    by_cases h2 : k2 ≤ 64
    · exact h.cmp f hf c2 k2 hw2 (.inl h2)
    · omega
  have far_ : ∀ f, f < 64 → (L.getD f 0 = farN ↔ ¬ Clr ags used p f) := fun f hf => by
    constructor
    · intro e hc
      have := (short f hf hc).1
      rw [e] at this
      simp [farN] at this
    · intro hc
      have h1 := h.le f hf
      by_cases e : L.getD f 0 = farN
      · exact e
      · obtain ⟨c, hw⟩ := h.snd f hf (by omega)
        exact absurd ⟨c, _, hw⟩ hc
  refine ⟨h.len, far_, fun f hf hne => ?_⟩
  obtain ⟨c, hw⟩ := h.snd f hf (by have := h.le f hf; omega)
  have := short f hf ⟨c, _, hw⟩
  exact ⟨this.1, ⟨c, hw⟩, this.2⟩
theorem RI.same {r m i f : Nat} {L : List Nat} (h : RI ags used p r m i L) (hf : f < 64) : L.set f (min (L.getD f 0) farN) = L := by
  rw [Nat.min_eq_left (h.le f hf)]
  apply List.ext_getElem?
  intro g
  rw [List.getElem?_set]
  by_cases e : f = g
  · subst e
    have : f < L.length := by rw [h.len]; exact hf
    rw [if_pos rfl, if_pos this, List.getD_eq_getElem?_getD, List.getElem?_eq_getElem this]; rfl
  · rw [if_neg e]
end Go.Proofs.YtofkhehcnfiopaaDoor.N
namespace Go.Proofs.YtofkhehcnfiopaaDoor.N
open Go Go.RowKit Go.Proofs
/-! What is asked of whatever agents, a melt and faults: the program and the reference answer alike. -/
def twoR (R : List Ag → Nat → Nat → List Nat × Nat) (l : List RA) (m p : Int) : List Nat × Nat := if askedR l m p = 0 then R (agsOf l) p.toNat m.toNat else ([], askedR l m p)
theorem twoR_ok {R : List Ag → Nat → Nat → List Nat × Nat} {l : List RA} {f p : Nat} (h : askedR l (f : Int) (p : Int) = 0) : twoR R l (f : Int) (p : Int) = R (agsOf l) p f := by
  unfold twoR
  rw [if_pos h, Int.toNat_natCast, Int.toNat_natCast]
theorem twoR_bad {R : List Ag → Nat → Nat → List Nat × Nat} {l : List RA} {m p : Int} {E : Nat} (h : askedR l m p = E) (hE : E ≠ 0) : twoR R l m p = ([], E) := by
  unfold twoR
  rw [h, if_neg hE]
theorem prog_two {k : FuncId} {A : Option Addr} {c : Nat} (R : List Ag → Nat → Nat → List Nat × Nat)
    (hok : ∀ ags, Oks ags → ∀ f p : Nat, f < 64 → p < 64 → ∀ w, RdL Ag.cells 5 w A ags → Calls Tryd.prog k #[.slice A ags.length c, .int .i64 (f : Int), .int .i64 (p : Int)] w (Says w (R ags p f).1 (R ags p f).2))
    (hbad : ∀ l, checkR l ≠ 0 → ∀ (n0 n1 : Int) w, RdL RA.cells 5 w A l → Calls Tryd.prog k #[.slice A l.length c, .int .i64 n0, .int .i64 n1] w fun e w' => e = .returned (.tuple #[.slice none 0 0, .int .i64 ((checkR l : Nat) : Int)]) ∧ Grew w w' [])
    (hbad0 : ∀ ags, Oks ags → ∀ n0 : Int, inB n0 0 63 = false → ∀ (n1 : Int) w, RdL Ag.cells 5 w A ags → Calls Tryd.prog k #[.slice A ags.length c, .int .i64 n0, .int .i64 n1] w fun e w' => e = .returned (.tuple #[.slice none 0 0, .int .i64 1]) ∧ Grew w w' [])
    (hbad1 : ∀ ags, Oks ags → ∀ n0 : Nat, n0 < 64 → ∀ n1 : Int, inB n1 0 63 = false → ∀ w, RdL Ag.cells 5 w A ags → Calls Tryd.prog k #[.slice A ags.length c, .int .i64 (n0 : Int), .int .i64 n1] w fun e w' => e = .returned (.tuple #[.slice none 0 0, .int .i64 1]) ∧ Grew w w' [])
    (l : List RA) (m p : Int) (w : World) (hA : RdL RA.cells 5 w A l) : Calls Tryd.prog k #[.slice A l.length c, .int .i64 m, .int .i64 p] w (Says w (twoR R l m p).1 (twoR R l m p).2) := by
  by_cases hc : checkR l = 0
  · cases hb : inB m 0 63 with
    | true =>
      obtain ⟨f, rfl, hf⟩ := nat_of_inB hb
      cases hq : inB p 0 63 with
      | true =>
        obtain ⟨q, rfl, hq'⟩ := nat_of_inB hq
        have h0 : askedR l (f : Int) (q : Int) = 0 := by unfold askedR; rw [if_neg (by simpa using hc), if_pos (by rw [hb, hq]; rfl)]
        have h := hok (agsOf l) (checkR_oks hc) f q hf hq' w (hA.ag hc)
        rw [agsOf_len] at h
        rw [twoR_ok h0]
        exact h
      | false =>
        have h1 := askedR_one (m := (f : Int)) (p := p) hc (.inr hq)
        have h := hbad1 (agsOf l) (checkR_oks hc) f hf p hq w (hA.ag hc)
        rw [agsOf_len] at h
        rw [twoR_bad h1 (by decide)]
        exact h.mono fun e w' h => Says.nil h
    | false =>
      have h1 := askedR_one (p := p) hc (.inl hb)
      have h := hbad0 (agsOf l) (checkR_oks hc) m hb p w (hA.ag hc)
      rw [agsOf_len] at h
      rw [twoR_bad h1 (by decide)]
      exact h.mono fun e w' h => Says.nil h
  · have h1 := askedR_check (m := m) (p := p) hc
    rw [twoR_bad h1 hc]
    exact (hbad l hc m p w hA).mono fun e w' h => Says.nil h
theorem ref_two {k : FuncId} {A : Option Addr} {c : Nat} (R : List Ag → Nat → Nat → List Nat × Nat)
    (hok : ∀ ags, Oks ags → ∀ f p : Nat, f < 64 → p < 64 → ∀ w, RdL Ag.cells 5 w A ags → Calls Tryd.prog k #[.slice A ags.length c, .int .i64 (f : Int), .int .i64 (p : Int)] w (Says w (R ags p f).1 (R ags p f).2))
    (hbad : ∀ (l : List RA) (m p : Int), askedR l m p ≠ 0 → ∀ w, RdL RA.cells 5 w A l → Calls Tryd.prog k #[.slice A l.length c, .int .i64 m, .int .i64 p] w fun e w' => e = .returned (.tuple #[.slice none 0 0, .int .i64 ((askedR l m p : Nat) : Int)]) ∧ Grew w w' [])
    (l : List RA) (m p : Int) (w : World) (hA : RdL RA.cells 5 w A l) : Calls Tryd.prog k #[.slice A l.length c, .int .i64 m, .int .i64 p] w (Says w (twoR R l m p).1 (twoR R l m p).2) := by
  by_cases h0 : askedR l m p = 0
  · obtain ⟨hc, hb, hq⟩ := askedR_zero h0
    obtain ⟨f, rfl, hf⟩ := nat_of_inB hb
    obtain ⟨q, rfl, hq'⟩ := nat_of_inB hq
    have h := hok (agsOf l) (checkR_oks hc) f q hf hq' w (hA.ag hc)
    rw [agsOf_len] at h
    rw [twoR_ok h0]
    exact h
  · rw [twoR_bad rfl h0]
    exact (hbad l m p h0 w hA).mono fun e w' h => Says.nil h
end Go.Proofs.YtofkhehcnfiopaaDoor.N
namespace Go.Proofs.YtofkhehcnfiopaaDoor.N
open Go Go.RowKit Go.Proofs
/-! The first list, the shorter ones first, that does something. -/
def FS (n : Nat) (P : List Nat → Prop) (K : Nat) : Option (List Nat) → Prop
  | some v => P v ∧ Wd n v ∧ v.length ≤ K ∧ ∀ u, Wd n u → u.length ≤ K → P u → code n v ≤ code n u
  | none => ∀ u, Wd n u → u.length ≤ K → ¬ P u
theorem FS.unique {n K : Nat} {P : List Nat → Prop} {r s : Option (List Nat)} (h : FS n P K r) (h' : FS n P K s) : r = s := by
  cases r with
  | none =>
    cases s with
    | none => rfl
    | some v => exact absurd h'.1 (h v h'.2.1 h'.2.2.1)
  | some v =>
    cases s with
    | none => exact absurd h.1 (h' v h.2.1 h.2.2.1)
    | some w =>
      have h1 := h.2.2.2 w h'.2.1 h'.2.2.1 h'.1
      have h2 := h'.2.2.2 v h.2.1 h.2.2.1 h.1
      exact congrArg some (code_inj n _ v w rfl h.2.1 h'.2.1 (by omega))
open Classical in
noncomputable def fsA (n : Nat) (P : List Nat → Prop) (K : Nat) : List Nat × Nat := if h : ∃ v, FS n P K (some v) then (h.choose, 0) else ([], 11)
theorem fsA_is {n K : Nat} {P : List Nat → Prop} {r : Option (List Nat)} (h : FS n P K r) : fsA n P K = (r.getD [], if r.isSome then 0 else 11) := by
  unfold fsA
  cases r with
  | none =>
    rw [dif_neg (fun ⟨v, hv⟩ => by cases FS.unique h hv)]
    rfl
  | some v =>
    have hx : ∃ v, FS n P K (some v) := ⟨v, h⟩
    rw [dif_pos hx]
    have e : some hx.choose = some v := FS.unique hx.choose_spec h
    rw [Option.some.inj e]
    rfl
theorem fsA_le (n : Nat) (P : List Nat → Prop) (K : Nat) : (fsA n P K).1.length ≤ K := by
  unfold fsA
  split
  · rename_i h
    exact h.choose_spec.2.2.1
  · exact Nat.zero_le _
/-- What a walk through all lists has seen. -/
structure SeenS (n : Nat) (P : List Nat → Prop) (k i : Nat) : Prop where
  less : ∀ u, Wd n u → u.length < k → ¬ P u
  now : ∀ j u, j < i → (strs n k)[j]? = some u → ¬ P u
theorem SeenS.start {n : Nat} {P : List Nat → Prop} : SeenS n P 0 0 := ⟨fun _ _ h => absurd h (Nat.not_lt_zero _), fun _ _ h => absurd h (Nat.not_lt_zero _)⟩
theorem SeenS.start1 {n : Nat} {P : List Nat → Prop} (h : ¬ P []) : SeenS n P 1 0 := ⟨fun u _ hl => by
  obtain rfl : u = [] := List.eq_nil_of_length_eq_zero (by omega)
  exact h, fun _ _ h => absurd h (Nat.not_lt_zero _)⟩
theorem SeenS.next {n k i : Nat} {P : List Nat → Prop} (h : SeenS n P k i) {v : List Nat} (hv : (strs n k)[i]? = some v) (hp : ¬ P v) : SeenS n P k (i + 1) :=
  ⟨h.less, fun j u hj hu => by
    rcases Nat.lt_succ_iff_lt_or_eq.1 hj with h1 | rfl
    · exact h.now j u h1 hu
    · rw [hv] at hu
      cases hu
      exact hp⟩
theorem SeenS.round {n k i : Nat} {P : List Nat → Prop} (h : SeenS n P k i) (hi : (strs n k).length ≤ i) : SeenS n P (k + 1) 0 :=
  ⟨fun u hu hl => by
    rcases Nat.lt_succ_iff_lt_or_eq.1 hl with h1 | h1
    · exact h.less u hu h1
    · obtain ⟨j, hj⟩ := List.getElem?_of_mem (strs_all hu h1)
      exact h.now j u (Nat.lt_of_lt_of_le (List.getElem?_eq_some_iff.1 hj).1 hi) hj, fun _ _ h => absurd h (Nat.not_lt_zero _)⟩
theorem SeenS.none_ {n K : Nat} {P : List Nat → Prop} (h : SeenS n P (K + 1) 0) : FS n P K none := fun u hu hl => h.less u hu (by omega)
theorem SeenS.found {n k i K : Nat} {P : List Nat → Prop} (h : SeenS n P k i) (hk : k ≤ K) {v : List Nat} (hv : (strs n k)[i]? = some v) (hp : P v) : FS n P K (some v) := by
  obtain ⟨hvl, hvw⟩ := strs_mem (List.mem_of_getElem? hv)
  refine ⟨hp, hvw, by omega, fun u hu _ hpu => ?_⟩
  rcases Nat.lt_trichotomy u.length k with hl | hl | hl
  · exact absurd hpu (h.less u hu hl)
  · obtain ⟨j, hj⟩ := List.getElem?_of_mem (strs_all hu hl)
    rcases Nat.lt_or_ge j i with h2 | h2
    · exact absurd hpu (h.now j u h2 hj)
    · exact strs_le_code hv hj h2
  · exact Nat.le_of_lt (code_lt_of_len n u.length u v rfl (by omega) hvw)
/-! Teams. -/
theorem tget_putT {x : Ag} {t : Tm} {m j : Nat} (hm : m ≤ 3) (hj : j < m) : tget (putT x t m) j = putN x (tget t j) := by
  rcases (show m = 0 ∨ m = 1 ∨ m = 2 ∨ m = 3 by omega) with rfl | rfl | rfl | rfl
  · omega
  · obtain rfl : j = 0 := by omega
    rfl
  · rcases (show j = 0 ∨ j = 1 by omega) with rfl | rfl <;> rfl
  · rcases (show j = 0 ∨ j = 1 ∨ j = 2 by omega) with rfl | rfl | rfl <;> rfl
theorem tget_teamOf {ms : List Nat} {m j : Nat} (hm : m ≤ 3) (hj : j < m) : tget (teamOf ms m) j = ms.getD j 0 := by
  rcases (show m = 0 ∨ m = 1 ∨ m = 2 ∨ m = 3 by omega) with rfl | rfl | rfl | rfl
  · omega
  · obtain rfl : j = 0 := by omega
    rfl
  · rcases (show j = 0 ∨ j = 1 by omega) with rfl | rfl <;> rfl
  · rcases (show j = 0 ∨ j = 1 ∨ j = 2 by omega) with rfl | rfl | rfl <;> rfl
theorem run_team {ags : List Ag} {n : Nat} (h1 : 1 ≤ n) (h3 : n ≤ 3) : ∀ (v : List Nat) (t : Tm),
    (∀ t', run (stepT ags (usedAll ags.length) n) t v = some t' → ∀ j, j < n → followN ags (tget t j) v = some (tget t' j)) ∧
    ((∀ j, j < n → ∃ g, followN ags (tget t j) v = some g) → ∃ t', run (stepT ags (usedAll ags.length) n) t v = some t')
  | [], t => ⟨fun t' h j _ => by cases h; rfl, fun _ => ⟨t, rfl⟩⟩
  | i :: l, t => by
    constructor
    · intro t' h j hj
      have h' : (stepT ags (usedAll ags.length) n t i).bind (fun s => run (stepT ags (usedAll ags.length) n) s l) = some t' := h
      obtain ⟨s, hs, hr⟩ := Option.bind_eq_some_iff.1 h'
      unfold stepT at hs
      split at hs
      · rename_i hc
        cases hs
        have hm := List.all_eq_true.1 hc.2.2 j (List.mem_range.2 hj)
        have := (run_team h1 h3 l _).1 t' hr j hj
        rw [tget_putT h3 hj] at this
        unfold followN
        rw [if_pos ⟨hc.1, hm⟩]
        exact this
      · cases hs
    · intro h
      have hstep : ∀ j, j < n → (i < ags.length ∧ mayN (ags.getD i default) (tget t j) = true) ∧ ∃ g, followN ags (putN (ags.getD i default) (tget t j)) l = some g := fun j hj => by
        obtain ⟨g, hg⟩ := h j hj
        unfold followN at hg
        split at hg
        · rename_i hc
          exact ⟨hc, g, hg⟩
        · cases hg
      have hi := (hstep 0 h1).1.1
      have hs : stepT ags (usedAll ags.length) n t i = some (putT (ags.getD i default) t n) := by
        unfold stepT
        rw [if_pos ⟨hi, by rw [usedAll_bit]; exact decide_eq_true hi, List.all_eq_true.2 fun j hj => (hstep j (List.mem_range.1 hj)).1.2⟩]
      obtain ⟨t', ht⟩ := (run_team h1 h3 l (putT (ags.getD i default) t n)).2 fun j hj => by rw [tget_putT h3 hj]; exact (hstep j hj).2
      exact ⟨t', by show (stepT ags (usedAll ags.length) n t i).bind _ = _; rw [hs]; exact ht⟩
/-- A list of agents that clears all of some melts. -/
def clearsM (ags : List Ag) (ms : List Nat) (p : Nat) (v : List Nat) : Prop := ∀ m ∈ ms, ∃ g, followN ags m v = some g ∧ nn g p = 0
theorem mem_getD {ms : List Nat} {m : Nat} : m ∈ ms ↔ ∃ j, j < ms.length ∧ ms.getD j 0 = m := by
  rw [List.mem_iff_getElem?]
  constructor
  · rintro ⟨j, hj⟩
    exact ⟨j, (List.getElem?_eq_some_iff.1 hj).1, by rw [List.getD_eq_getElem?_getD, hj]; rfl⟩
  · rintro ⟨j, hj, rfl⟩
    exact ⟨j, by rw [List.getD_eq_getElem?_getD, List.getElem?_eq_getElem hj]; rfl⟩
theorem clearsM_run {ags : List Ag} {ms : List Nat} {p : Nat} (h1 : 1 ≤ ms.length) (h3 : ms.length ≤ 3) {v : List Nat} :
    clearsM ags ms p v ↔ ∃ t, run (stepT ags (usedAll ags.length) ms.length) (teamOf ms ms.length) v = some t ∧ clearT p t ms.length = true := by
  obtain ⟨ha, hb⟩ := run_team (ags := ags) h1 h3 v (teamOf ms ms.length)
  constructor
  · intro h
    obtain ⟨t, ht⟩ := hb fun j hj => by
      rw [tget_teamOf h3 hj]
      obtain ⟨g, hg, _⟩ := h _ (mem_getD.2 ⟨j, hj, rfl⟩)
      exact ⟨g, hg⟩
    refine ⟨t, ht, List.all_eq_true.2 fun j hj => ?_⟩
    have hj := List.mem_range.1 hj
    have h2 := ha t ht j hj
    rw [tget_teamOf h3 hj] at h2
    obtain ⟨g, hg, h0⟩ := h _ (mem_getD.2 ⟨j, hj, rfl⟩)
    rw [h2] at hg
    cases hg
    exact decide_eq_true h0
  · rintro ⟨t, ht, hc⟩ m hm
    obtain ⟨j, hj, rfl⟩ := mem_getD.1 hm
    have h2 := ha t ht j hj
    rw [tget_teamOf h3 hj] at h2
    exact ⟨_, h2, of_decide_eq_true (List.all_eq_true.1 hc j (List.mem_range.2 hj))⟩
theorem both_fs {ags : List Ag} {ms : List Nat} {p : Nat} (h1 : 1 ≤ ms.length) (h3 : ms.length ≤ 3) {o : Option Wk}
    (h : FoundO ags (usedAll ags.length) ms.length 5 (teamOf ms ms.length) (fun t => clearT p t ms.length) o) : FS ags.length (clearsM ags ms p) 5 (o.map Wk.how) := by
  cases o with
  | none =>
    intro u _ hl hp
    obtain ⟨t, ht, hc⟩ := (clearsM_run h1 h3).1 hp
    have : clearT p t ms.length = false := h u t ht (.inr (by omega))
    rw [hc] at this
    cases this
  | some k =>
    obtain ⟨⟨hg, hf, hm⟩, hr, hgk⟩ := h
    refine ⟨(clearsM_run h1 h3).2 ⟨_, hr, hgk⟩, run_wd _ stepT_none _ _ _ hr, by rcases hf with h | h <;> omega, fun u hu hl hp => ?_⟩
    obtain ⟨t, ht, hc⟩ := (clearsM_run h1 h3).1 hp
    exact hm u t ht hc (.inr (by omega))
/-- A list of agents that tells two melts apart by its last one. -/
def tellsP (ags : List Ag) (f g : Nat) (v : List Nat) : Prop := ∃ u i a b, v = u ++ [i] ∧ followN ags f u = some a ∧ followN ags g u = some b ∧ i < ags.length ∧ mayN (ags.getD i default) a ≠ mayN (ags.getD i default) b
theorem tells_iff {x : Ag} {a b c : Nat} : tells x (a, b, c) = true ↔ mayN x a ≠ mayN x b := by
  unfold tells
  cases mayN x a <;> cases mayN x b <;> simp
theorem tells_fs {ags : List Ag} {f g : Nat} {o : Option Wk} (h : FoundO ags (usedAll ags.length) 2 4 (f, g, 0) (tellsG ags) o) :
    FS ags.length (tellsP ags f g) 5 (o.map fun k => k.how ++ [tellsI ags k.team]) := by
  have hrun : ∀ u a b, followN ags f u = some a → followN ags g u = some b → run (stepT ags (usedAll ags.length) 2) (f, g, 0) u = some (a, b, 0) := fun u a b h1 h2 => by
    rw [run_two, h1, h2]; rfl
  have hsome : ∀ {i : Nat} {t : Tm}, i < ags.length → tells (ags.getD i default) t = true → tellsG ags t = true := fun {i t} hi ht => tells_some (k := i) (x := ags.getD i default) (by rw [List.getD_eq_getElem?_getD, List.getElem?_eq_getElem hi]; rfl) ht
  cases o with
  | none =>
    rintro v _ hl ⟨u, i, a, b, rfl, h1, h2, hi, hd⟩
    have := h u (a, b, 0) (hrun u a b h1 h2) (.inr (by simp at hl; omega))
    rw [hsome hi (tells_iff.2 hd)] at this
    cases this
  | some k =>
    obtain ⟨⟨_, hf, hm⟩, hr, hgk⟩ := h
    have hlt : tellsI ags k.team < ags.length := List.findIdx_lt_length_of_exists (by simpa [tellsG] using hgk)
    have hwd : Wd ags.length k.how := run_wd _ stepT_none _ _ _ hr
    have hlen : k.how.length ≤ 4 := by rcases hf with h | h <;> omega
    have hat : tells (ags.getD (tellsI ags k.team) default) k.team = true := by
      have := List.findIdx_getElem (p := (tells · k.team)) (w := hlt)
      rw [List.getD_eq_getElem?_getD, List.getElem?_eq_getElem hlt]
      exact this
    have hr2 := hr
    rw [run_two] at hr2
    obtain ⟨a, ha, hr3⟩ := Option.bind_eq_some_iff.1 hr2
    obtain ⟨b, hb, hab⟩ := Option.map_eq_some_iff.1 hr3
    refine ⟨⟨k.how, _, a, b, rfl, ha, hb, hlt, ?_⟩, Wd.snoc.2 ⟨hwd, hlt⟩, by simp; omega, ?_⟩
    · rw [← hab] at hat
      rw [← hab]
      exact tells_iff.1 hat
    · rintro v hv hl ⟨u, i, a', b', rfl, h1, h2, hi, hd⟩
      have ht : tells (ags.getD i default) (a', b', 0) = true := tells_iff.2 hd
      have hu : Wd ags.length u := (Wd.snoc.1 hv).1
      have hle := hm u (a', b', 0) (hrun u a' b' h1 h2) (hsome hi ht) (.inr (by simp at hl; omega))
      rcases Nat.lt_or_eq_of_le hle with hlt2 | heq
      · rw [code_snoc, code_snoc]
        exact Nat.le_of_lt (code_snoc_lt hlt2 hlt)
      · obtain rfl := code_inj ags.length _ k.how u rfl hwd hu heq
        rw [h1] at ha
        rw [h2] at hb
        cases ha; cases hb
        rw [code_snoc, code_snoc]
        have : tellsI ags k.team ≤ i := by
          refine Nat.le_of_not_lt fun hc => ?_
          have := List.not_of_lt_findIdx (p := (tells · k.team)) (xs := ags) hc
          rw [hab] at ht
          rw [List.getD_eq_getElem?_getD, List.getElem?_eq_getElem hi] at ht
          exact absurd ht (by simpa using this)
        omega
end Go.Proofs.YtofkhehcnfiopaaDoor.N
namespace Go.Proofs.YtofkhehcnfiopaaDoor.N
open Go Go.RowKit Go.Proofs
theorem Upd.same {r r' : Res} {l l' : List Res} (h : Upd r r' l l') (e : r' = r) : l' = l := by
  induction h with
  | head l => rw [e]
  | tail x _ ih => rw [ih]
theorem ncell_one : ∀ x, ∀ u ∈ ncell x, u.oneCell' = true := fun x u hu => by
  simp [ncell] at hu
  subst hu
  rfl
section
variable {C : Ctx} {fr : List (Nat × Value)} {hp : List Res} {ops : Array Oper} {Q : Exit → Act → World → Prop} {rest : List Oper} {d : Nat} {ty : TypeId} {pos : String} {after : Array Edge}
/-- A slice that may be nil, appended. -/
theorem lst_append_opt {α : Type} {cells : α → List Value} {x y : Operand} {t e : TypeId} {A B : Option Addr} {n c m cb size bytes : Nat} {xs : List Value} {l : List α} {z : Value} {hp' : Option Addr → Nat → List Res} (hd : Nat.blt d C.N = true)
    (hx : ev fr x = some (.slice A n c)) (hy : ev fr y = some (.slice B m cb)) (ht : C.P.underlying t = some (.slice e)) (hi : TI C.P e z size bytes) (hzs : z.cells.size = size) (hs0 : Nat.blt 0 size = true) (hs : ∀ x, (cells x).length = size) (ho1 : ∀ x, ∀ u ∈ cells x, u.oneCell' = true)
    (hB : B = none → m = 0 ∧ cb = 0) (hnews : ∀ a w, At C fr hp a w → RdL cells size w B l) (hl : l.length = m) [hr : InR A e size n c xs hp] [hu : ∀ A' c', UpR A e size n c xs (.row e size A' (n + m) c' (xs ++ l.flatMap cells)) hp (hp' A' c')]
    (h63 : n + m ≤ maxLen) (hbytes : (n + m) * bytes ≤ 140737488355328)
    (k : ∀ A' c', Lst C ops Q rest ((d, .slice A' (n + m) c') :: fr) (hp' A' c')) :
    Lst C ops Q (⟨some d, .call { callee := .builtin .append, args := #[x, y], argTypes := #[t, t] }, ty, pos, after, none⟩ :: rest) fr hp := by
  cases B with
  | some p => exact lst_append_cells hd hx hy ht hi hzs hs0 hs ho1 hnews hl h63 hbytes k
  | none =>
    obtain ⟨rfl, rfl⟩ := hB rfl
    obtain rfl : l = [] := List.eq_nil_of_length_eq_zero hl
    refine lst_append_row_nil (n' := n) (c' := c) hd hx hy ht hi rfl rfl ?_
    have hk := k A c
    rw [(hu A c).upd.same (by rw [List.flatMap_nil, List.append_nil, Nat.add_zero])] at hk
    exact hk
end
/-! Lists with the first agent ahead: the same lists. -/
def consS (n : Nat) (L : List (List Nat)) : List (List Nat) := (List.range n).flatMap fun i => L.map (i :: ·)
theorem strs_cons (n : Nat) : ∀ k, strs n (k + 1) = consS n (strs n k)
  | 0 => by
    unfold consS
    show ([[]] : List (List Nat)).flatMap (extS n) = (List.range n).flatMap fun i => ([[]] : List (List Nat)).map (i :: ·)
    simp only [List.flatMap_cons, List.flatMap_nil, List.append_nil, List.map_cons, List.map_nil, extS, List.nil_append]
    exact List.map_eq_flatMap
  | k + 1 => by
    show (strs n (k + 1)).flatMap (extS n) = consS n (strs n (k + 1))
    conv => lhs; rw [strs_cons n k]
    unfold consS
    rw [List.flatMap_assoc]
    refine congrArg (fun f => (List.range n).flatMap f) (funext fun i => ?_)
    rw [strs_succ, List.flatMap_map, List.map_flatMap]
    refine congrArg (fun f => (strs n k).flatMap f) (funext fun x => ?_)
    simp [extS]
def consT (i : Nat) (L : List (List Nat)) : List (List Nat) := (List.range i).flatMap fun y => L.map (y :: ·)
theorem consT_succ (i : Nat) (L : List (List Nat)) : consT (i + 1) L = consT i L ++ L.map (i :: ·) := by
  unfold consT
  rw [List.range_succ, List.flatMap_append, List.flatMap_singleton]
end Go.Proofs.YtofkhehcnfiopaaDoor.N
namespace Go.Proofs.YtofkhehcnfiopaaDoor.N
open Go Go.RowKit Go.Proofs
theorem F.ent83 : Enters Tryd.prog 83 := enters_of Tryd.func83 rfl (by kernel_rfl)
theorem lists_0 (n : Nat) (w : World) : Calls Tryd.prog 83 #[.int .i64 (n : Int), .int .i64 0] w fun e w' => ∃ (Ls : List Sl) (A : Option Addr) (c : Nat), Ls.map Sl.l = strs n (0) ∧ e = .returned (.slice A Ls.length c) ∧ Grew w w' (.row 25 1 A Ls.length c (Ls.map Sl.val) :: Ls.map Sl.res) := by
  refine enter (N := 38) [(0, .int .i64 (n : Int)), (1, .int .i64 0)] Tryd.func83 rfl Tryd.ntmps83 rfl rfl ?_
  refine cod_seq ?_
  refine cod_region ?_
  refine lst_assign rfl rfl ?_
  refine lst_nil ?_
  refine ex_then ?_
  refine cod_seq ?_
  refine cod_seq ?_
  refine cod_region ?_
  refine lst_move rfl rfl ?_
  refine lst_int rfl rfl rfl bin_eql ?_
  refine lst_nil ?_
  refine ex_then ?_
  refine cod_cond_true rfl ?_
  refine cod_seq ?_
  refine cod_region ?_
  refine lst_lit (vs := [(0, _)]) rfl rfl Tryd.underlying49 F.ti25 rfl rfl rfl ?_
  intro b11
  refine lst_as_rowN 1 1 rfl (by unfold maxLen; omega) (.head _) ?_
  refine lst_nilrow 3 1 ?_
  refine lst_assign rfl rfl ?_
  refine lst_nil ?_
  refine ex_then ?_
  refine cod_ret ?_
  refine ex_then_ret ?_
  exact ex_ret rfl (fun a w ha => res_one rfl rfl ha) (fun a w ha => ⟨[⟨none, 0, []⟩], some ⟨b11, 0, none⟩, 1, rfl, rfl, (ha.permed (List.Perm.swap _ _ _)).grown (List.Sublist.refl _)⟩)

theorem lists_s (n k : Nat) (hn : n ≤ 4) (hk : k + 1 ≤ 5) (ih : ∀ w, Calls Tryd.prog 83 #[.int .i64 (n : Int), .int .i64 (k : Int)] w (fun e w' => ∃ (Ls : List Sl) (A : Option Addr) (c : Nat), Ls.map Sl.l = strs n (k) ∧ e = .returned (.slice A Ls.length c) ∧ Grew w w' (.row 25 1 A Ls.length c (Ls.map Sl.val) :: Ls.map Sl.res))) (w : World) : Calls Tryd.prog 83 #[.int .i64 (n : Int), .int .i64 ((k + 1 : Nat) : Int)] w fun e w' => ∃ (Ls : List Sl) (A : Option Addr) (c : Nat), Ls.map Sl.l = strs n (k + 1) ∧ e = .returned (.slice A Ls.length c) ∧ Grew w w' (.row 25 1 A Ls.length c (Ls.map Sl.val) :: Ls.map Sl.res) := by
  refine enter (N := 38) [(0, .int .i64 (n : Int)), (1, .int .i64 ((k + 1 : Nat) : Int))] Tryd.func83 rfl Tryd.ntmps83 rfl rfl ?_
  refine cod_seq ?_
  refine cod_region ?_
  refine lst_assign rfl rfl ?_
  refine lst_nil ?_
  refine ex_then ?_
  refine cod_seq ?_
  refine cod_seq ?_
  refine cod_region ?_
  refine lst_move rfl rfl ?_
  refine lst_int rfl rfl rfl bin_eql ?_
  refine lst_nil ?_
  refine ex_then ?_
  refine cod_cond_false rfl ?_
  refine cod_skip ?_
  refine ex_then ?_
  refine cod_seq ?_
  refine cod_region ?_
  refine lst_assign rfl rfl ?_
  refine lst_nil ?_
  refine ex_then ?_
  refine cod_seq ?_
  refine cod_region ?_
  refine lst_move rfl rfl ?_
  refine lst_move rfl rfl ?_
  refine lst_int rfl rfl rfl (fun w => bin_sub w (show IntKind.i64.wrap (((k + 1 : Nat) : Int) - 1) = ((k : Nat) : Int) from by rw [wrap_i64' _ (by omega) (by omega)]; omega)) ?_
  refine lst_fn (X := List Sl × Option Addr × Nat) (vs := [_, _]) (p := fun y => y.1.map Sl.l = strs n k) (val := fun y => .slice y.2.1 y.1.length y.2.2) (rs := fun y => .row 25 1 y.2.1 y.1.length y.2.2 (y.1.map Sl.val) :: y.1.map Sl.res) rfl rfl F.ent83 (fun a w ha => (ih w).mono (fun e w' h => by obtain ⟨Ls, A', c', h1, h2, h3⟩ := h; exact ⟨(Ls, A', c'), h1, h2, h3⟩)) ?_
  rintro ⟨Ls, A, c⟩ hLs
  dsimp only [List.cons_append] at hLs ⊢
  refine lst_assign rfl rfl ?_
  refine lst_nil ?_
  refine ex_then ?_
  refine cod_seq ?_
  refine cod_seq ?_
  refine cod_region ?_
  refine lst_assign rfl rfl ?_
  refine lst_nil ?_
  refine ex_then ?_
  refine cod_block ?_
  have hLl : Ls.length = (strs n k).length := by rw [← hLs, List.length_map]
  have hL1 := strs_le (n := n) (k := k) hn (by omega)
  refine cod_nil 25 1 ?_
  refine cod_loop' (G := Nat × Option Addr × Nat × List Sl) (fun g => g.1 ≤ n ∧ g.2.2.2.map Sl.l = consT g.1 (strs n k) ∧ g.2.2.2.length = g.1 * Ls.length) (fun g => n - g.1) (fun g => [(0, .int .i64 (n : Int)), (5, .slice g.2.1 g.2.2.2.length g.2.2.1), (6, .slice A Ls.length c), (7, .int .i64 (g.1 : Int))]) (fun g => .row 25 1 g.2.1 g.2.2.2.length g.2.2.1 (g.2.2.2.map Sl.val) :: .row 25 1 A Ls.length c (Ls.map Sl.val) :: (g.2.2.2.map Sl.res ++ (Ls.map Sl.res ++ []))) (0, none, 0, []) ⟨Nat.zero_le _, rfl, by rw [Nat.zero_mul]; rfl⟩ (by repeat (first | exact Sub.nil _ | refine Sub.cons rfl ?_)) (by (try simp only [List.map_cons, List.map_nil, List.cons_append, List.nil_append]); repeat (first | exact Pck.nil _ | exact Pck.refl _ | exact Pck.suffix _ _ | (apply Pck.cons; focus ((repeat (first | exact Rem.here _ | apply Rem.there)); done)) | refine Pck.skip _ ?_)) ?_
  rintro ⟨i, A2, c2, Ms⟩ hI
  dsimp only at hI ⊢
  refine cod_seq ?_
  refine cod_seq ?_
  refine cod_region ?_
  refine lst_move rfl rfl ?_
  refine lst_move rfl rfl ?_
  refine lst_int rfl rfl rfl bin_lss ?_
  refine lst_nil ?_
  refine ex_then ?_
  refine cod_cond_dec rfl (fun hc1 => ?_) (fun hc1 => ?_)
  · skip
    have hin : i < n := by omega
    refine cod_skip ?_
    refine ex_then ?_
    refine cod_seq ?_
    refine cod_block ?_
    refine cod_seq ?_
    refine cod_region ?_
    refine lst_assign rfl rfl ?_
    refine lst_nil ?_
    refine ex_then ?_
    refine cod_block ?_
    refine cod_loop' (G := Nat × Option Addr × Nat × List Sl) (fun g => g.1 ≤ Ls.length ∧ g.2.2.2.map Sl.l = consT i (strs n k) ++ ((strs n k).take g.1).map (i :: ·) ∧ g.2.2.2.length = i * Ls.length + g.1) (fun g => Ls.length - g.1) (fun g => [(0, .int .i64 (n : Int)), (5, .slice g.2.1 g.2.2.2.length g.2.2.1), (6, .slice A Ls.length c), (7, .int .i64 (i : Int)), (8, .int .i64 (g.1 : Int))]) (fun g => .row 25 1 g.2.1 g.2.2.2.length g.2.2.1 (g.2.2.2.map Sl.val) :: .row 25 1 A Ls.length c (Ls.map Sl.val) :: (g.2.2.2.map Sl.res ++ (Ls.map Sl.res ++ []))) (0, A2, c2, Ms) ⟨Nat.zero_le _, by rw [hI.2.1]; simp, by rw [hI.2.2]; rfl⟩ (by repeat (first | exact Sub.nil _ | refine Sub.cons rfl ?_)) (by repeat (first | exact Pck.nil _ | exact Pck.refl _ | (apply Pck.cons; focus ((repeat (first | exact Rem.here _ | apply Rem.there)); done)) | refine Pck.skip _ ?_)) ?_
    rintro ⟨x, A3, c3, Ns⟩ hN
    dsimp only at hN ⊢
    refine cod_seq ?_
    refine cod_seq ?_
    refine cod_region ?_
    refine lst_move rfl rfl ?_
    refine lst_move rfl rfl ?_
    refine lst_len rfl rfl Tryd.underlying49 ?_
    refine lst_int rfl rfl rfl bin_lss ?_
    refine lst_nil ?_
    refine ex_then ?_
    refine cod_cond_dec rfl (fun hc2 => ?_) (fun hc2 => ?_)
    · skip
      have hx' : x < Ls.length := by omega
      obtain ⟨s, hs⟩ : ∃ s, Ls[x]? = some s := ⟨_, List.getElem?_eq_getElem hx'⟩
      have hsx : (strs n k)[x]? = some s.l := by rw [← hLs, List.getElem?_map, hs]; rfl
      have hsm : s ∈ Ls := List.mem_of_getElem? hs
      have hsl := (strs_mem (List.mem_of_getElem? hsx)).1
      have hNl := hN.2.2
      have hxn : i * Ls.length ≤ 4 * 1024 := Nat.mul_le_mul (by omega) (by omega)
      refine cod_know (φ := s.A = none → s.l.length = 0 ∧ s.c = 0) (fun a w ha h => row_none ha (e := 3) (size := 1) (n := s.l.length) (c := s.c) (xs := ints s.l) (by have hm : s.res ∈ Ls.map Sl.res := List.mem_map.2 ⟨s, hsm, rfl⟩; simp [hm, ← show s.res = Res.row 3 1 s.A s.l.length s.c (ints s.l) from rfl]) h) (fun hnil => ?_)
      refine cod_skip ?_
      refine ex_then ?_
      refine cod_seq ?_
      refine cod_block ?_
      refine cod_region ?_
      refine lst_move rfl rfl ?_
      refine lst_move rfl rfl ?_
      refine lst_lit (vs := [(0, _)]) rfl rfl Tryd.underlying25 F.ti3 rfl rfl rfl ?_
      intro b29
      refine lst_as_rowN 1 1 rfl (by unfold maxLen; omega) (.head _) ?_
      refine lst_move rfl rfl ?_
      refine lst_move rfl rfl ?_
      refine lst_index_row (j := x) rfl rfl rfl Tryd.underlying49 F.ti25 rfl hx' rfl rfl ?_
      intro gA hgA
      refine lst_load_row (v := .slice s.A s.l.length s.c) rfl rfl F.one25 hgA (vals_get hs) ?_
      refine lst_append_opt (cells := ncell) rfl rfl rfl Tryd.underlying25 F.ti3 rfl rfl (fun _ => rfl) ncell_one hnil (fun a w ha => row_reads ha (cells := ncell) (size := 1) (e := 3) (c := s.c) (n := s.l.length) (fun _ => rfl) (by have hm : s.res ∈ Ls.map Sl.res := List.mem_map.2 ⟨s, hsm, rfl⟩; rw [← ints_flat]; simp [hm, ← show s.res = Res.row 3 1 s.A s.l.length s.c (ints s.l) from rfl]) rfl) rfl (by unfold maxLen; omega) (by omega) ?_
      intro An cn
      refine lst_lit (vs := [(0, _)]) rfl rfl Tryd.underlying49 F.ti25 rfl rfl rfl ?_
      intro b35
      refine lst_append rfl rfl rfl Tryd.underlying49 F.ti25 rfl rfl rfl (by unfold maxLen; omega) (by omega) ?_
      intro A4 c4
      refine lst_assign rfl rfl ?_
      refine lst_nil ?_
      refine ex_block_normal ?_
      refine ex_then ?_
      refine cod_region ?_
      refine lst_move rfl rfl ?_
      refine lst_int rfl rfl rfl (fun w => bin_add w (wrap_i64' _ (by omega) (by omega))) ?_
      refine lst_assign rfl rfl ?_
      refine lst_nil ?_
      have hml : (Ns ++ [(⟨An, cn, i :: s.l⟩ : Sl)]).length = Ns.length + 1 := by simp
      have hmv : (Ns ++ [(⟨An, cn, i :: s.l⟩ : Sl)]).map Sl.val = Ns.map Sl.val ++ [.slice An (1 + s.l.length) cn] := by simp [Sl.val, Nat.add_comm]
      have hsr : (⟨An, cn, i :: s.l⟩ : Sl).res = .row 3 1 An (1 + s.l.length) cn ([.int .i64 (i : Int)] ++ s.l.flatMap ncell) := by rw [← ints_flat]; simp [Sl.res, ints, Nat.add_comm]
      refine ex_round' (x + 1, A4, c4, Ns ++ [(⟨An, cn, i :: s.l⟩ : Sl)]) ⟨by omega, by rw [List.map_append, hN.2.1, List.take_add_one, hsx]; simp, by rw [hml]; dsimp only; omega⟩ (by (try dsimp only); omega) (by dsimp only; rw [hml]; repeat (first | exact Sub.nil _ | refine Sub.cons rfl ?_)) (by dsimp only; rw [hml, hmv]; repeat (first | exact Pck.nil _ | exact Pck.refl _ | exact Pck.suffix _ _ | exact Pck.snoc2 hsr _ _ | (apply Pck.cons; focus ((repeat (first | exact Rem.here _ | apply Rem.there)); done)) | refine Pck.skip _ ?_))
    · skip
      obtain rfl : x = Ls.length := by omega
      have hMs : Ns.map Sl.l = consT (i + 1) (strs n k) := by rw [consT_succ, hN.2.1, List.take_of_length_le (by omega)]
      refine cod_exit ?_
      refine ex_then_exit ?_
      refine ex_then_exit ?_
      refine ex_block_exit ?_
      refine ex_block_normal ?_
      refine ex_then ?_
      refine cod_region ?_
      refine lst_move rfl rfl ?_
      refine lst_int rfl rfl rfl (fun w => bin_add w (wrap_i64' _ (by omega) (by omega))) ?_
      refine lst_assign rfl rfl ?_
      refine lst_nil ?_
      refine ex_round' (i + 1, A3, c3, Ns) ⟨by omega, hMs, by rw [hN.2.2, Nat.succ_mul]⟩ (by (try dsimp only); omega) (by (try dsimp only); repeat (first | exact Sub.nil _ | refine Sub.cons rfl ?_)) (by (try dsimp only); repeat (first | exact Pck.nil _ | exact Pck.refl _ | (apply Pck.cons; focus ((repeat (first | exact Rem.here _ | apply Rem.there)); done)) | refine Pck.skip _ ?_))
  · skip
    refine cod_exit ?_
    refine ex_then_exit ?_
    refine ex_then_exit ?_
    refine ex_block_exit ?_
    refine ex_then ?_
    refine cod_seq ?_
    refine cod_region ?_
    refine lst_move rfl rfl ?_
    refine lst_assign rfl rfl ?_
    refine lst_nil ?_
    refine ex_then ?_
    refine cod_ret ?_
    obtain rfl : i = n := by omega
    exact ex_ret rfl (fun a w ha => res_one rfl rfl ha) (fun a w ha => ⟨Ms, A2, c2, by rw [strs_cons]; exact hI.2.1, rfl, (ha.pck (Pck.cons (.here _) (Pck.skip _ (Pck.pre _ _)))).grown (by rw [List.append_nil]; exact List.Sublist.refl _)⟩)

theorem lists_c (n : Nat) (hn : n ≤ 4) : ∀ (k : Nat), k ≤ 5 → ∀ w : World, Calls Tryd.prog 83 #[.int .i64 (n : Int), .int .i64 (k : Int)] w (fun e w' => ∃ (Ls : List Sl) (A : Option Addr) (c : Nat), Ls.map Sl.l = strs n (k) ∧ e = .returned (.slice A Ls.length c) ∧ Grew w w' (.row 25 1 A Ls.length c (Ls.map Sl.val) :: Ls.map Sl.res))
  | 0, _, w => lists_0 n w
  | k + 1, hk, w => lists_s n k hn hk (fun w => lists_c n hn k (by omega) w) w
end Go.Proofs.YtofkhehcnfiopaaDoor.N
