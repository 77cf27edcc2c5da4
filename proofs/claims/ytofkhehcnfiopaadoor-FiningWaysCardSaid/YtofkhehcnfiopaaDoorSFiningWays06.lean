/- Parts of the walks of the laws on fining, those that FiningWays needs: F11, First, First2, F12, HatL, F13, Hat2, F14, AgL, F15, Kit, F16, Kit2, Kit3, Both5, F19, TellsP, Sx5. -/
import Derived.Test.YtofkhehcnfiopaaDoorSFiningWays05
import Derived.Test.YtofkhehcnfiopaaDoorProg
import Derived.Test.YtofkhehcnfiopaaDoorSFiningWays03
namespace Go.Proofs.YtofkhehcnfiopaaDoor.N
open Go Go.RowKit Go.Proofs
set_option linter.unusedSectionVars false
variable [I : Sys]
theorem F.pl24 : Places Tryd.prog 24 [(0, 1), (1, 1), (2, 1), (3, 1), (4, 1)] := .inl ⟨_, Tryd.underlying24, by kernel_rfl⟩
theorem eqInts_c (A B : Option Addr) (c c2 : Nat) (l m : List Int) (hl : l.length ≤ 140737488355328) (w : World) (hA : RdL icell 1 w A l) (hB : RdL icell 1 w B m) : Calls Tryd.prog 32 #[.slice A l.length c, .slice B m.length c2] w fun e w' => e = .returned (.bool (decide (l = m))) ∧ Grew w w' [] := by
  refine enter (N := 32) [(0, .slice A l.length c), (1, .slice B m.length c2)] Tryd.func32 rfl Tryd.ntmps32 rfl rfl ?_
  refine cod_seq ?_
  refine cod_region ?_
  refine lst_assign rfl rfl ?_
  refine lst_nil ?_
  refine ex_then ?_
  refine cod_seq ?_
  refine cod_seq ?_
  refine cod_region ?_
  refine lst_assign rfl rfl ?_
  refine lst_nil ?_
  refine ex_then ?_
  refine cod_block ?_
  refine cod_loop (G := Nat) (fun k => k ≤ l.length ∧ k ≤ m.length ∧ l.take k = m.take k) (fun k => l.length - k) (fun k => [(0, .slice A l.length c), (1, .slice B m.length c2), (5, .int .i64 (k : Int))]) (fun k => []) 0 ⟨Nat.zero_le _, Nat.zero_le _, rfl⟩ sbn sbl ?_
  intro k hk
  (try dsimp only at hk ⊢)
  refine cod_seq ?_
  refine cod_seq ?_
  refine cod_region ?_
  refine lst_cut1 10 15 (.bool (decide ((k : Int) < (l.length : Int)) && decide ((k : Int) < (m.length : Int)))) ?_ ?_
  · skip
    refine lst_move rfl rfl ?_
    refine lst_move rfl rfl ?_
    refine lst_len rfl rfl Tryd.underlying25 ?_
    refine lst_int rfl rfl rfl bin_lss ?_
    refine lst_move rfl rfl ?_
    refine lst_split (t := 10) rfl (fun hg10 => ?_) (fun hg10 => ?_)
    · skip
      refine lst_on rfl rfl ?_
      refine lst_move rfl rfl ?_
      refine lst_on rfl rfl ?_
      refine lst_move rfl rfl ?_
      refine lst_on rfl rfl ?_
      refine lst_len rfl rfl Tryd.underlying25 ?_
      refine lst_on rfl rfl ?_
      refine lst_int rfl rfl rfl bin_lss ?_
      refine lst_pick_true rfl rfl rfl ?_
      refine lst_nil ?_
      exact ex_cut (.cons (by first | rfl | simp [look, *]) sbn) sbl
    · skip
      refine lst_off rfl rfl rfl ?_
      refine lst_off rfl rfl rfl ?_
      refine lst_off rfl rfl rfl ?_
      refine lst_off rfl rfl rfl ?_
      refine lst_pick_false rfl rfl rfl ?_
      refine lst_nil ?_
      exact ex_cut (.cons (by first | rfl | simp [look, *]) sbn) sbl
  refine lst_nil ?_
  refine ex_then ?_
  refine cod_cond_bool rfl (fun hc0 => ?_) (fun hc0 => ?_)
  · skip
    have hb2 : k < l.length ∧ k < m.length := by simp at hc0; omega
    obtain ⟨b, o, rfl, hb, hcell⟩ := hA (by omega)
    obtain ⟨b', o', rfl, hb', hcell'⟩ := hB (by omega)
    obtain ⟨x, hx⟩ : ∃ x, l[k]? = some x := ⟨_, List.getElem?_eq_getElem hb2.1⟩
    obtain ⟨y, hy⟩ : ∃ y, m[k]? = some y := ⟨_, List.getElem?_eq_getElem hb2.2⟩
    refine cod_skip ?_
    refine ex_then ?_
    refine cod_seq ?_
    refine cod_block ?_
    refine cod_seq ?_
    refine any_begin [] F.follows 9 rfl [false, false, false, false, false, false, false, false, false] rfl ?_
    refine any_tk 0 rfl rfl rfl (yld_move rfl) ?_
    refine any_tk 1 rfl rfl rfl (yld_move rfl) ?_
    refine any_tk 2 rfl rfl rfl (yld_index (j := k) rfl rfl Tryd.underlying25 F.ti3 rfl hb2.1) ?_
    refine any_tk 3 rfl rfl rfl (yld_load_at (v := .int .i64 x) rfl F.one3 (fun a w ha => ha.old (hcell k x hx 0 _ rfl) hb)) ?_
    refine any_tk 4 rfl rfl rfl (yld_move rfl) ?_
    refine any_tk 5 rfl rfl rfl (yld_move rfl) ?_
    refine any_tk 6 rfl rfl rfl (yld_index (j := k) rfl rfl Tryd.underlying25 F.ti3 rfl hb2.2) ?_
    refine any_tk 7 rfl rfl rfl (yld_load_at (v := .int .i64 y) rfl F.one3 (fun a w ha => ha.old (hcell' k y hy 0 _ rfl) hb')) ?_
    refine any_tk 8 rfl rfl rfl (yld_int rfl rfl bin_neq) ?_
    refine any_done rfl (by kernel_rfl) ?_
    refine ex_then ?_
    refine cod_cond_dec rfl (fun hc1 => ?_) (fun hc1 => ?_)
    · skip
      refine cod_seq ?_
      refine cod_region ?_
      refine lst_assign rfl rfl ?_
      refine lst_nil ?_
      refine ex_then ?_
      refine cod_ret ?_
      refine ex_block_ret ?_
      refine ex_then_ret ?_
      refine ex_then_ret ?_
      refine ex_block_ret ?_
      refine ex_then_ret ?_
      have hne := eq_ints_ne hx hy hc1
      exact ex_ret rfl (fun a w ha => res_one rfl rfl ha) (fun a w ha => ⟨by rw [decide_eq_false hne], ha.grown (List.nil_sublist _)⟩)
    · skip
      obtain rfl : x = y := Classical.not_not.1 hc1
      refine cod_skip ?_
      refine ex_block_normal ?_
      refine ex_then ?_
      refine cod_region ?_
      refine lst_move rfl rfl ?_
      refine lst_int rfl rfl rfl (fun w => bin_add w (wrap_i64' _ (by omega) (by omega))) ?_
      refine lst_assign rfl rfl ?_
      refine lst_nil ?_
      refine ex_round (k + 1) ⟨by omega, by omega, take_eq_succ hk.2.2 hx hy⟩ (by (try dsimp only); omega) sbn sbl
  · skip
    have hb2 : ¬ (k < l.length ∧ k < m.length) := by simp at hc0; omega
    have he := eq_ints_end hk.1 hk.2.1 hk.2.2 hb2
    refine cod_exit ?_
    refine ex_then_exit ?_
    refine ex_then_exit ?_
    refine ex_block_exit ?_
    refine ex_then ?_
    refine cod_seq ?_
    refine cod_region ?_
    refine lst_move rfl rfl ?_
    refine lst_len rfl rfl Tryd.underlying25 ?_
    refine lst_move rfl rfl ?_
    refine lst_len rfl rfl Tryd.underlying25 ?_
    refine lst_int rfl rfl rfl bin_eql ?_
    refine lst_assign rfl rfl ?_
    refine lst_nil ?_
    refine ex_then ?_
    refine cod_ret ?_
    exact ex_ret rfl (fun a w ha => res_one rfl rfl ha) (fun a w ha => ⟨by rw [he], ha.grown (List.nil_sublist _)⟩)

theorem s_c  (w : World) : Calls Tryd.prog 71 #[] w fun e w' => ∃ b, e = .returned (.slice (some ⟨b, 0, none⟩) 4 4) ∧ Grew w w' [.blk b (.cells (sAgs.flatMap Ag.cells).toArray 24 (0, 0))] := by
  refine enter (N := 6) [] Tryd.func71 rfl Tryd.ntmps71 rfl rfl ?_
  refine cod_seq ?_
  refine cod_region ?_
  refine lst_assign rfl rfl ?_
  refine lst_nil ?_
  refine ex_then ?_
  refine cod_seq ?_
  refine cod_region ?_
  refine lst_struct (vs := [(0, _), (2, _), (3, _), (4, _)]) (l' := [_, _, _, _, _]) rfl rfl F.ti24 F.pl24 (.cons rfl rfl (.cons rfl rfl (.cons rfl rfl (.cons rfl rfl (.nil _))))) rfl ?_
  refine lst_struct (vs := [(0, _), (1, _), (2, _), (4, _)]) (l' := [_, _, _, _, _]) rfl rfl F.ti24 F.pl24 (.cons rfl rfl (.cons rfl rfl (.cons rfl rfl (.cons rfl rfl (.nil _))))) rfl ?_
  refine lst_struct (vs := [(0, _), (2, _), (3, _), (4, _)]) (l' := [_, _, _, _, _]) rfl rfl F.ti24 F.pl24 (.cons rfl rfl (.cons rfl rfl (.cons rfl rfl (.cons rfl rfl (.nil _))))) rfl ?_
  refine lst_struct (vs := [(0, _), (1, _), (2, _), (4, _)]) (l' := [_, _, _, _, _]) rfl rfl F.ti24 F.pl24 (.cons rfl rfl (.cons rfl rfl (.cons rfl rfl (.cons rfl rfl (.nil _))))) rfl ?_
  refine lst_litN (vs := [(0, _), (1, _), (2, _), (3, _)]) _ rfl rfl Tryd.underlying22 F.ti24 rfl rfl rfl (Lit.agg rfl (Lit.agg rfl (Lit.agg rfl (Lit.agg rfl rfl)))) ?_
  intro b5
  refine lst_assign rfl rfl ?_
  refine lst_nil ?_
  refine ex_then ?_
  refine cod_ret ?_
  exact ex_ret rfl (fun a w ha => res_one rfl rfl ha) (fun a w ha => ⟨b5, rfl, ha.grown sbl⟩)

end Go.Proofs.YtofkhehcnfiopaaDoor.N
namespace Go.Proofs.YtofkhehcnfiopaaDoor.N
open Go Go.RowKit Go.Proofs
set_option linter.unusedSectionVars false
variable [I : Sys]
/-- The word of a code. -/
def decodeF (n : Nat) : Nat → Nat → List Nat
  | 0, _ => []
  | _ + 1, 0 => []
  | k + 1, c + 1 => decodeF n k (c / n) ++ [c % n]
theorem decodeF_spec {n : Nat} (hn : 1 ≤ n) : ∀ k c, c ≤ k → Wd n (decodeF n k c) ∧ code n (decodeF n k c) = c
  | 0, c, h => by
    obtain rfl : c = 0 := by omega
    exact ⟨fun i hi => by simp [decodeF] at hi, rfl⟩
  | k + 1, 0, _ => ⟨fun i hi => by simp [decodeF] at hi, rfl⟩
  | k + 1, c + 1, h => by
    have hc : c / n ≤ k := Nat.le_trans (Nat.div_le_self c n) (by omega)
    obtain ⟨h1, h2⟩ := decodeF_spec hn k (c / n) hc
    refine ⟨Wd.snoc.2 ⟨h1, Nat.mod_lt c (by omega)⟩, ?_⟩
    show code n (decodeF n k (c / n) ++ [c % n]) = c + 1
    rw [code_snoc, h2, Nat.mul_comm]
    have := Nat.div_add_mod c n
    omega
def decode (n c : Nat) : List Nat := decodeF n c c
theorem decode_code {n : Nat} (hn : 1 ≤ n) {v : List Nat} (hv : Wd n v) : decode n (code n v) = v := by
  obtain ⟨h1, h2⟩ := decodeF_spec hn (code n v) (code n v) (Nat.le_refl _)
  exact code_inj n _ _ _ rfl h1 hv h2
/-- Does a word lead to a goal, and is it short enough? -/
def hitB (ags : List Ag) (used n : Nat) (most : Int) (t0 : Tm) (goal : Tm → Bool) (w : List Nat) : Bool :=
  (match run (stepT ags used n) t0 w with
  | some t => goal t
  | none => false) && (decide (most < 0) || decide ((w.length : Int) ≤ most))
theorem hitB_iff {ags : List Ag} {used n : Nat} {most : Int} {t0 : Tm} {goal : Tm → Bool} {w : List Nat} : hitB ags used n most t0 goal w = true ↔ (∃ t, run (stepT ags used n) t0 w = some t ∧ goal t = true) ∧ Fits most w := by
  unfold hitB Fits
  cases h : run (stepT ags used n) t0 w with
  | none => simp
  | some t => simp
def firstB (ags : List Ag) (used n : Nat) (most : Int) (t0 : Tm) (goal : Tm → Bool) (w : List Nat) : Bool :=
  hitB ags used n most t0 goal w && (List.range (code ags.length w)).all fun c => !(hitB ags used n most t0 goal (decode ags.length c))
theorem firstB_spec {ags : List Ag} {used n : Nat} {most : Int} {t0 : Tm} {goal : Tm → Bool} {w : List Nat} (hn : 1 ≤ ags.length) (h : firstB ags used n most t0 goal w = true) : IsFirst (stepT ags used n) ags.length most t0 goal w := by
  unfold firstB at h
  rw [Bool.and_eq_true] at h
  obtain ⟨h1, h2⟩ := hitB_iff.1 h.1
  refine ⟨h1, h2, fun v t hr hg hf => ?_⟩
  rcases Nat.lt_or_ge (code ags.length v) (code ags.length w) with hlt | hge
  · exfalso
    have := List.all_eq_true.1 h.2 (code ags.length v) (List.mem_range.2 hlt)
    rw [decode_code hn (run_wd _ stepT_none v t0 t hr)] at this
    rw [hitB_iff.2 ⟨⟨t, hr, hg⟩, hf⟩] at this
    cases this
  · exact hge
theorem found_first {ags : List Ag} {used n : Nat} {most : Int} {t0 : Tm} {goal : Tm → Bool} {o : Option Wk} (ho : FoundO ags used n most t0 goal o) {w : List Nat} (hw : IsFirst (stepT ags used n) ags.length most t0 goal w) : ∃ k, o = some k ∧ k.how = w := by
  cases o with
  | none => exact absurd ho (fun h => IsFirst.not_none (stepT ags used n) hw h)
  | some k => exact ⟨k, rfl, IsFirst.unique (stepT ags used n) stepT_none ho.1 hw⟩
theorem found_firstB {ags : List Ag} {used n : Nat} {most : Int} {t0 : Tm} {goal : Tm → Bool} {o : Option Wk} (ho : FoundO ags used n most t0 goal o) {w : List Nat} (hn : 1 ≤ ags.length) (h : firstB ags used n most t0 goal w = true) : ∃ k, o = some k ∧ k.how = w := found_first ho (firstB_spec hn h)
/-! The examples. -/
theorem ex_put : alongF sAgs 7 [2, 0, 1] = some [3, 2, 0] := by decide +kernel
theorem ex_short : firstB sAgs 15 1 (-1) (7, 0, 0) (fun t => decide (nn t.1 0 = 0)) [0, 3] = true := by decide +kernel
theorem ex_both : firstB sAgs 15 2 5 (1, 3, 0) (fun t => clearT 0 t 2) [0, 1] = true := by decide +kernel
theorem ex_tells : firstB sAgs 15 2 4 (2, 6, 0) (tellsG sAgs) [] = true := by decide +kernel
theorem ex_tellsI : tellsI sAgs (2, 6, 0) = 1 := by decide +kernel
theorem ex_cheapN : (roundP sAgs 15 (iterP sAgs 15 0 4) 64).2 = false := by decide +kernel
theorem ex_cheap : ∀ j, j ≤ 4 → (roundP sAgs 15 (iterP sAgs 15 0 j) 64).2 = false → cheapW sAgs 15 (iterP sAgs 15 0 j) 7 = [2, 0, 1] ∧ cheapC (iterP sAgs 15 0 j) 7 = 4 ∧ cheapE (iterP sAgs 15 0 j) 7 = 0 := by decide +kernel
end Go.Proofs.YtofkhehcnfiopaaDoor.N
namespace Go.Proofs.YtofkhehcnfiopaaDoor.N
open Go Go.RowKit Go.Proofs
set_option linter.unusedSectionVars false
variable [I : Sys]
def farTL (ws : Nat → List Nat) : Nat → Nat × Nat
  | 0 => (0, 0)
  | k + 1 => if (farTL ws k).2 < (ws k).length then (k, (ws k).length) else farTL ws k
theorem farL_table {os : Nat → Option Wk} {ws : Nat → List Nat} : ∀ k, (∀ f, f < k → ∃ x, os f = some x ∧ x.how = ws f) → farL os k = farTL ws k
  | 0, _ => rfl
  | k + 1, h => by
    have ih := farL_table k (fun f hf => h f (by omega))
    obtain ⟨x, hx, hw⟩ := h k (by omega)
    unfold farL farTL
    rw [ih, hx]
    by_cases hc : (farTL ws k).2 < (ws k).length
    · rw [if_pos hc, if_pos (by simp [wayO, hw]; omega)]
      simp [wayO, hw]
    · rw [if_neg hc, if_neg (by simp [wayO, hw]; omega)]
def farW (f : Nat) : List Nat := [[], [0, 1], [1], [0, 1], [2, 0, 1], [0, 3], [3], [0, 3]].getD (f % 8) []
theorem ex_farW : ∀ f, f < 64 → firstB sAgs 15 1 (-1) (f, 0, 0) (fun t => decide (nn t.1 56 = 0)) (farW f) = true := by decide +kernel
theorem ex_far : farTL farW 64 = (4, 3) := by decide +kernel
end Go.Proofs.YtofkhehcnfiopaaDoor.N
namespace Go.Proofs.YtofkhehcnfiopaaDoor.N
open Go Go.RowKit Go.Proofs
set_option linter.unusedSectionVars false
variable [I : Sys]
theorem F.ent28 : Enters Tryd.prog 28 := enters_of Tryd.func28 rfl (by kernel_rfl)
theorem F.ent30 : Enters Tryd.prog 30 := enters_of Tryd.func30 rfl (by kernel_rfl)
theorem F.ent32 : Enters Tryd.prog 32 := enters_of Tryd.func32 rfl (by kernel_rfl)
theorem F.ent35 : Enters Tryd.prog 35 := enters_of Tryd.func35 rfl (by kernel_rfl)
theorem F.ent40 : Enters Tryd.prog 40 := enters_of Tryd.func40 rfl (by kernel_rfl)
theorem F.ent53 : Enters Tryd.prog 53 := enters_of Tryd.func53 rfl (by kernel_rfl)
theorem F.ent54 : Enters Tryd.prog 54 := enters_of Tryd.func54 rfl (by kernel_rfl)
theorem F.ent71 : Enters Tryd.prog 71 := enters_of Tryd.func71 rfl (by kernel_rfl)
theorem fined_c  (w : World) : Calls Tryd.prog 21 #[] w fun e w' => e = .returned (.bool true) ∧ Grew w w' [] := by
  refine enter (N := 108) [] Tryd.func21 rfl Tryd.ntmps21 rfl rfl ?_
  refine cod_seq ?_
  refine cod_region ?_
  refine lst_assign rfl rfl ?_
  refine lst_nil ?_
  refine ex_then ?_
  refine cod_seq ?_
  refine cod_region ?_
  refine lst_fn (X := Nat) (vs := []) (p := fun _ => True) (val := fun b => .slice (some ⟨b, 0, none⟩) 4 4) (rs := fun b => [.blk b (.cells (sAgs.flatMap Ag.cells).toArray 24 (0, 0))]) rfl rfl F.ent71 (fun a w ha => (s_c w).mono (fun e w' h => by obtain ⟨b, h1, h2⟩ := h; exact ⟨b, trivial, h1, h2⟩)) ?_
  intro s1 _
  dsimp only [List.cons_append, List.nil_append]
  refine lst_lit (vs := [(0, _), (1, _), (2, _)]) rfl rfl Tryd.underlying25 F.ti3 rfl rfl rfl ?_
  intro b17
  refine lst_fn (X := Option Addr × Nat) (vs := [_, _, _]) (p := fun _ => True) (val := fun x => .tuple #[.slice x.1 3 x.2, .int .i64 0]) (rs := fun x => [.row 3 1 x.1 3 x.2 (ints [3, 2, 0])]) rfl rfl F.ent40 (fun a w ha => by
    exact (Put_ok (some ⟨s1, 0, none⟩) 4 sAgs sOks (some ⟨b17, 0, none⟩) 3 7 [2, 0, 1] [3, 2, 0] (by decide) (by decide) ex_put w (blk_reads ha (cells := Ag.cells) (size := 5) (b := s1) (l := sAgs) (fun _ => rfl) rfl) (blk_reads ha (cells := ncell) (size := 1) (b := b17) (l := [2, 0, 1]) (fun _ => rfl) rfl)).mono (fun e w' h => by obtain ⟨A', c', h1, h2⟩ := h; exact ⟨(A', c'), trivial, h1, h2⟩)) ?_
  rintro ⟨A1, c1⟩ -
  dsimp only [List.cons_append, List.nil_append]
  refine lst_move rfl rfl ?_
  refine lst_extract rfl rfl rfl ?_
  refine lst_extract rfl rfl rfl ?_
  refine lst_assign rfl rfl ?_
  refine lst_assign rfl rfl ?_
  refine lst_nil ?_
  refine ex_then ?_
  refine cod_seq ?_
  refine cod_region ?_
  refine lst_fn (X := Nat) (vs := []) (p := fun _ => True) (val := fun b => .slice (some ⟨b, 0, none⟩) 4 4) (rs := fun b => [.blk b (.cells (sAgs.flatMap Ag.cells).toArray 24 (0, 0))]) rfl rfl F.ent71 (fun a w ha => (s_c w).mono (fun e w' h => by obtain ⟨b, h1, h2⟩ := h; exact ⟨b, trivial, h1, h2⟩)) ?_
  intro s2 _
  dsimp only [List.cons_append, List.nil_append]
  refine lst_fn (X := Option Addr × Nat) (vs := [_, _, _]) (p := fun _ => True) (val := fun x => .tuple #[.slice x.1 2 x.2, .int .i64 0]) (rs := fun x => [.row 3 1 x.1 2 x.2 (ints [0, 3])]) rfl rfl F.ent53 (fun a w ha => by
    exact (Shortest_ok (some ⟨s2, 0, none⟩) 4 sAgs sOks 7 0 (by decide) (by decide) w (blk_reads ha (cells := Ag.cells) (size := 5) (b := s2) (l := sAgs) (fun _ => rfl) rfl)).mono (fun e w' h => by obtain ⟨o, h1, h2, h3⟩ := h; obtain ⟨k, rfl, hk⟩ := found_firstB (show FoundO sAgs 15 1 (-1) (7, 0, 0) (fun t => decide (nn t.1 0 = 0)) o from h1) (by decide) ex_short; exact ⟨(k.A, k.c), trivial, by rw [h2]; simp [wayO, hk], by simpa [wayO, hk] using h3⟩)) ?_
  rintro ⟨A2, c2⟩ -
  dsimp only [List.cons_append, List.nil_append]
  refine lst_move rfl rfl ?_
  refine lst_extract rfl rfl rfl ?_
  refine lst_extract rfl rfl rfl ?_
  refine lst_assign rfl rfl ?_
  refine lst_assign rfl rfl ?_
  refine lst_nil ?_
  refine ex_then ?_
  refine cod_seq ?_
  refine cod_region ?_
  refine lst_fn (X := Nat) (vs := []) (p := fun _ => True) (val := fun b => .slice (some ⟨b, 0, none⟩) 4 4) (rs := fun b => [.blk b (.cells (sAgs.flatMap Ag.cells).toArray 24 (0, 0))]) rfl rfl F.ent71 (fun a w ha => (s_c w).mono (fun e w' h => by obtain ⟨b, h1, h2⟩ := h; exact ⟨b, trivial, h1, h2⟩)) ?_
  intro s3 _
  dsimp only [List.cons_append, List.nil_append]
  refine lst_fn (X := Option Addr × Nat) (vs := [_, _, _]) (p := fun _ => True) (val := fun x => .tuple #[.slice x.1 3 x.2, .int .i64 4, .int .i64 0]) (rs := fun x => [.row 3 1 x.1 3 x.2 (ints [2, 0, 1])]) rfl rfl F.ent35 (fun a w ha => by
    exact (Cheapest_ok (some ⟨s3, 0, none⟩) 4 sAgs sOks 7 0 4 (by decide) (by decide) (by decide) ex_cheapN w (blk_reads ha (cells := Ag.cells) (size := 5) (b := s3) (l := sAgs) (fun _ => rfl) rfl)).mono (fun e w' h => by obtain ⟨j, ps, A', c', h0, h1, h2, h3, h4⟩ := h; subst h1; obtain ⟨e1, e2, e3⟩ := ex_cheap j h0 h2; rw [show usedAll sAgs.length = 15 from rfl, e1, e2, e3] at h3; rw [show usedAll sAgs.length = 15 from rfl, e1] at h4; exact ⟨(A', c'), trivial, h3, h4⟩)) ?_
  rintro ⟨A3, c3⟩ -
  dsimp only [List.cons_append, List.nil_append]
  refine lst_move rfl rfl ?_
  refine lst_extract rfl rfl rfl ?_
  refine lst_extract rfl rfl rfl ?_
  refine lst_extract rfl rfl rfl ?_
  refine lst_assign rfl rfl ?_
  refine lst_assign rfl rfl ?_
  refine lst_assign rfl rfl ?_
  refine lst_nil ?_
  refine ex_then ?_
  refine cod_seq ?_
  refine cod_region ?_
  refine lst_fn (X := Nat) (vs := []) (p := fun _ => True) (val := fun b => .slice (some ⟨b, 0, none⟩) 4 4) (rs := fun b => [.blk b (.cells (sAgs.flatMap Ag.cells).toArray 24 (0, 0))]) rfl rfl F.ent71 (fun a w ha => (s_c w).mono (fun e w' h => by obtain ⟨b, h1, h2⟩ := h; exact ⟨b, trivial, h1, h2⟩)) ?_
  intro s4 _
  dsimp only [List.cons_append, List.nil_append]
  refine lst_fn0 (v := .tuple #[.int .i64 4, .int .i64 3, .int .i64 0]) (vs := [_, _]) rfl rfl F.ent54 (fun a w ha => by
    exact (Farthest_ok (some ⟨s4, 0, none⟩) 4 sAgs sOks 56 (by decide) w (blk_reads ha (cells := Ag.cells) (size := 5) (b := s4) (l := sAgs) (fun _ => rfl) rfl)).mono (fun e w' h => by obtain ⟨os, h1, h2, h3⟩ := h; rw [farL_table 64 (fun f hf => found_firstB (show FoundO sAgs 15 1 (-1) (f, 0, 0) (fun t => decide (nn t.1 56 = 0)) (os f) from h1 f hf) (by decide) (ex_farW f hf)), ex_far] at h2; exact ⟨h2, h3⟩)) ?_
  refine lst_move rfl rfl ?_
  refine lst_extract rfl rfl rfl ?_
  refine lst_extract rfl rfl rfl ?_
  refine lst_extract rfl rfl rfl ?_
  refine lst_assign rfl rfl ?_
  refine lst_assign rfl rfl ?_
  refine lst_assign rfl rfl ?_
  refine lst_nil ?_
  refine ex_then ?_
  refine cod_seq ?_
  refine cod_region ?_
  refine lst_fn (X := Nat) (vs := []) (p := fun _ => True) (val := fun b => .slice (some ⟨b, 0, none⟩) 4 4) (rs := fun b => [.blk b (.cells (sAgs.flatMap Ag.cells).toArray 24 (0, 0))]) rfl rfl F.ent71 (fun a w ha => (s_c w).mono (fun e w' h => by obtain ⟨b, h1, h2⟩ := h; exact ⟨b, trivial, h1, h2⟩)) ?_
  intro s5 _
  dsimp only [List.cons_append, List.nil_append]
  refine lst_lit (vs := [(0, _), (1, _)]) rfl rfl Tryd.underlying25 F.ti3 rfl rfl rfl ?_
  intro b40
  refine lst_fn (X := Option Addr × Nat) (vs := [_, _, _]) (p := fun _ => True) (val := fun x => .tuple #[.slice x.1 2 x.2, .int .i64 0]) (rs := fun x => [.row 3 1 x.1 2 x.2 (ints [0, 1])]) rfl rfl F.ent28 (fun a w ha => by
    exact (Both_ok (some ⟨s5, 0, none⟩) 4 sAgs sOks (some ⟨b40, 0, none⟩) 2 [1, 3] 0 (by decide) (by decide) (by decide) (by decide) w (blk_reads ha (cells := Ag.cells) (size := 5) (b := s5) (l := sAgs) (fun _ => rfl) rfl) (blk_reads ha (cells := ncell) (size := 1) (b := b40) (l := [1, 3]) (fun _ => rfl) rfl)).mono (fun e w' h => by obtain ⟨o, h1, h2, h3⟩ := h; obtain ⟨k, rfl, hk⟩ := found_firstB (show FoundO sAgs 15 2 5 (1, 3, 0) (fun t => clearT 0 t 2) o from h1) (by decide) ex_both; exact ⟨(k.A, k.c), trivial, by rw [h2]; simp [wayO, hk], by simpa [wayO, hk] using h3⟩)) ?_
  rintro ⟨A5, c5⟩ -
  dsimp only [List.cons_append, List.nil_append]
  refine lst_move rfl rfl ?_
  refine lst_extract rfl rfl rfl ?_
  refine lst_extract rfl rfl rfl ?_
  refine lst_assign rfl rfl ?_
  refine lst_assign rfl rfl ?_
  refine lst_nil ?_
  refine ex_then ?_
  refine cod_seq ?_
  refine cod_region ?_
  refine lst_fn (X := Nat) (vs := []) (p := fun _ => True) (val := fun b => .slice (some ⟨b, 0, none⟩) 4 4) (rs := fun b => [.blk b (.cells (sAgs.flatMap Ag.cells).toArray 24 (0, 0))]) rfl rfl F.ent71 (fun a w ha => (s_c w).mono (fun e w' h => by obtain ⟨b, h1, h2⟩ := h; exact ⟨b, trivial, h1, h2⟩)) ?_
  intro s6 _
  dsimp only [List.cons_append, List.nil_append]
  refine lst_fn (X := Option Addr × Nat) (vs := [_, _, _]) (p := fun _ => True) (val := fun x => .tuple #[.slice x.1 1 x.2, .int .i64 0]) (rs := fun x => [.row 3 1 x.1 1 x.2 (ints [1])]) rfl rfl F.ent30 (fun a w ha => by
    exact (Tells_ok (some ⟨s6, 0, none⟩) 4 sAgs sOks 2 6 (by decide) (by decide) w (blk_reads ha (cells := Ag.cells) (size := 5) (b := s6) (l := sAgs) (fun _ => rfl) rfl)).mono (fun e w' h => by obtain ⟨o, A', c', h1, h2, h3⟩ := h; obtain ⟨k, rfl, hk⟩ := found_firstB (show FoundO sAgs 15 2 4 (2, 6, 0) (tellsG sAgs) o from h1) (by decide) ex_tells; have ht : k.team = (2, 6, 0) := (by have h4 := h1.2.1; rw [hk] at h4; exact (Option.some.inj h4).symm); have hl : tellsL sAgs (some k) = [1] := (by simp only [tellsL, hk, ht, ex_tellsI, List.nil_append]); rw [hl] at h2 h3; exact ⟨(A', c'), trivial, by rw [h2]; rfl, h3⟩)) ?_
  rintro ⟨A6, c6⟩ -
  dsimp only [List.cons_append, List.nil_append]
  refine lst_move rfl rfl ?_
  refine lst_extract rfl rfl rfl ?_
  refine lst_extract rfl rfl rfl ?_
  refine lst_assign rfl rfl ?_
  refine lst_assign rfl rfl ?_
  refine lst_nil ?_
  refine ex_then ?_
  refine cod_seq ?_
  refine cod_region ?_
  refine lst_move rfl rfl ?_
  refine lst_int rfl rfl rfl bin_eql ?_
  refine lst_move rfl rfl ?_
  refine lst_on rfl rfl ?_
  refine lst_move rfl rfl ?_
  refine lst_on rfl rfl ?_
  refine lst_int rfl rfl rfl bin_eql ?_
  refine lst_pick_true rfl rfl rfl ?_
  refine lst_move rfl rfl ?_
  refine lst_on rfl rfl ?_
  refine lst_move rfl rfl ?_
  refine lst_on rfl rfl ?_
  refine lst_int rfl rfl rfl bin_eql ?_
  refine lst_pick_true rfl rfl rfl ?_
  refine lst_move rfl rfl ?_
  refine lst_on rfl rfl ?_
  refine lst_move rfl rfl ?_
  refine lst_on rfl rfl ?_
  refine lst_int rfl rfl rfl bin_eql ?_
  refine lst_pick_true rfl rfl rfl ?_
  refine lst_move rfl rfl ?_
  refine lst_on rfl rfl ?_
  refine lst_move rfl rfl ?_
  refine lst_on rfl rfl ?_
  refine lst_int rfl rfl rfl bin_eql ?_
  refine lst_pick_true rfl rfl rfl ?_
  refine lst_move rfl rfl ?_
  refine lst_on rfl rfl ?_
  refine lst_move rfl rfl ?_
  refine lst_on rfl rfl ?_
  refine lst_int rfl rfl rfl bin_eql ?_
  refine lst_pick_true rfl rfl rfl ?_
  refine lst_move rfl rfl ?_
  refine lst_on rfl rfl ?_
  refine lst_move rfl rfl ?_
  refine lst_on rfl rfl ?_
  refine lst_int rfl rfl rfl bin_eql ?_
  refine lst_pick_true rfl rfl rfl ?_
  refine lst_move rfl rfl ?_
  refine lst_on rfl rfl ?_
  refine lst_move rfl rfl ?_
  refine lst_on rfl rfl ?_
  refine lst_int rfl rfl rfl bin_eql ?_
  refine lst_pick_true rfl rfl rfl ?_
  refine lst_move rfl rfl ?_
  refine lst_on rfl rfl ?_
  refine lst_move rfl rfl ?_
  refine lst_on rfl rfl ?_
  refine lst_int rfl rfl rfl bin_eql ?_
  refine lst_pick_true rfl rfl rfl ?_
  refine lst_move rfl rfl ?_
  refine lst_on rfl rfl ?_
  refine lst_move rfl rfl ?_
  refine lst_on rfl rfl ?_
  refine lst_lit (vs := [(0, _), (1, _), (2, _)]) rfl rfl Tryd.underlying25 F.ti3 rfl rfl rfl ?_
  intro b85
  refine lst_on rfl rfl ?_
  refine lst_fn0 (v := .bool true) (vs := [_, _]) rfl rfl F.ent32 (fun a w ha => (eqInts_c A1 (some ⟨b85, 0, none⟩) c1 3 [3, 2, 0] [3, 2, 0] (by decide) w (row_reads ha (cells := icell) (size := 1) (e := 3) (c := c1) (n := 3) (l := [3, 2, 0]) (fun _ => rfl) (InR.mem (A := A1)) rfl) (blk_reads ha (cells := icell) (size := 1) (b := b85) (l := [3, 2, 0]) (fun _ => rfl) rfl)).mono (fun e w' h => ⟨h.1.trans (by simp), h.2⟩)) ?_
  refine lst_pick_true rfl rfl rfl ?_
  refine lst_move rfl rfl ?_
  refine lst_on rfl rfl ?_
  refine lst_move rfl rfl ?_
  refine lst_on rfl rfl ?_
  refine lst_lit (vs := [(0, _), (1, _)]) rfl rfl Tryd.underlying25 F.ti3 rfl rfl rfl ?_
  intro b90
  refine lst_on rfl rfl ?_
  refine lst_fn0 (v := .bool true) (vs := [_, _]) rfl rfl F.ent32 (fun a w ha => (eqInts_c A2 (some ⟨b90, 0, none⟩) c2 2 [0, 3] [0, 3] (by decide) w (row_reads ha (cells := icell) (size := 1) (e := 3) (c := c2) (n := 2) (l := [0, 3]) (fun _ => rfl) (InR.mem (A := A2)) rfl) (blk_reads ha (cells := icell) (size := 1) (b := b90) (l := [0, 3]) (fun _ => rfl) rfl)).mono (fun e w' h => ⟨h.1.trans (by simp), h.2⟩)) ?_
  refine lst_pick_true rfl rfl rfl ?_
  refine lst_move rfl rfl ?_
  refine lst_on rfl rfl ?_
  refine lst_move rfl rfl ?_
  refine lst_on rfl rfl ?_
  refine lst_lit (vs := [(0, _), (1, _), (2, _)]) rfl rfl Tryd.underlying25 F.ti3 rfl rfl rfl ?_
  intro b95
  refine lst_on rfl rfl ?_
  refine lst_fn0 (v := .bool true) (vs := [_, _]) rfl rfl F.ent32 (fun a w ha => (eqInts_c A3 (some ⟨b95, 0, none⟩) c3 3 [2, 0, 1] [2, 0, 1] (by decide) w (row_reads ha (cells := icell) (size := 1) (e := 3) (c := c3) (n := 3) (l := [2, 0, 1]) (fun _ => rfl) (InR.mem (A := A3)) rfl) (blk_reads ha (cells := icell) (size := 1) (b := b95) (l := [2, 0, 1]) (fun _ => rfl) rfl)).mono (fun e w' h => ⟨h.1.trans (by simp), h.2⟩)) ?_
  refine lst_pick_true rfl rfl rfl ?_
  refine lst_move rfl rfl ?_
  refine lst_on rfl rfl ?_
  refine lst_move rfl rfl ?_
  refine lst_on rfl rfl ?_
  refine lst_lit (vs := [(0, _), (1, _)]) rfl rfl Tryd.underlying25 F.ti3 rfl rfl rfl ?_
  intro b100
  refine lst_on rfl rfl ?_
  refine lst_fn0 (v := .bool true) (vs := [_, _]) rfl rfl F.ent32 (fun a w ha => (eqInts_c A5 (some ⟨b100, 0, none⟩) c5 2 [0, 1] [0, 1] (by decide) w (row_reads ha (cells := icell) (size := 1) (e := 3) (c := c5) (n := 2) (l := [0, 1]) (fun _ => rfl) (InR.mem (A := A5)) rfl) (blk_reads ha (cells := icell) (size := 1) (b := b100) (l := [0, 1]) (fun _ => rfl) rfl)).mono (fun e w' h => ⟨h.1.trans (by simp), h.2⟩)) ?_
  refine lst_pick_true rfl rfl rfl ?_
  refine lst_move rfl rfl ?_
  refine lst_on rfl rfl ?_
  refine lst_move rfl rfl ?_
  refine lst_on rfl rfl ?_
  refine lst_lit (vs := [(0, _)]) rfl rfl Tryd.underlying25 F.ti3 rfl rfl rfl ?_
  intro b105
  refine lst_on rfl rfl ?_
  refine lst_fn0 (v := .bool true) (vs := [_, _]) rfl rfl F.ent32 (fun a w ha => (eqInts_c A6 (some ⟨b105, 0, none⟩) c6 1 [1] [1] (by decide) w (row_reads ha (cells := icell) (size := 1) (e := 3) (c := c6) (n := 1) (l := [1]) (fun _ => rfl) (InR.mem (A := A6)) rfl) (blk_reads ha (cells := icell) (size := 1) (b := b105) (l := [1]) (fun _ => rfl) rfl)).mono (fun e w' h => ⟨h.1.trans (by simp), h.2⟩)) ?_
  refine lst_pick_true rfl rfl rfl ?_
  refine lst_assign rfl rfl ?_
  refine lst_nil ?_
  refine ex_then ?_
  refine cod_ret ?_
  exact ex_ret rfl (fun a w ha => res_one rfl rfl ha) (fun a w ha => ⟨rfl, ha.grown (List.nil_sublist _)⟩)

end Go.Proofs.YtofkhehcnfiopaaDoor.N
namespace Go.Proofs.YtofkhehcnfiopaaDoor.N
open Go Go.RowKit Go.Proofs
set_option linter.unusedSectionVars false
variable [I : Sys]
theorem u64_some (z : Int) : ∃ m : Nat, m < 18446744073709551616 ∧ IntKind.u64.wrap z = (m : Int) := by
  refine ⟨(IntKind.u64.wrap z).toNat, ?_, ?_⟩
  · simp [IntKind.wrap, IntKind.signed, IntKind.bits]
    omega
  · simp [IntKind.wrap, IntKind.signed, IntKind.bits]
    omega
theorem xor64 {a b : Nat} (ha : a < 18446744073709551616) (hb : b < 18446744073709551616) : a ^^^ b < 18446744073709551616 := Nat.xor_lt_two_pow (n := 64) ha hb
theorem shr64 {a : Nat} (k : Nat) (ha : a < 18446744073709551616) : a >>> k < 18446744073709551616 := Nat.lt_of_le_of_lt (by rw [Nat.shiftRight_eq_div_pow]; exact Nat.div_le_self _ _) ha
theorem wrap_u64_succ {m : Nat} (h : m < 18446744073709551615) : IntKind.u64.wrap ((m : Int) + 1) = ((m + 1 : Nat) : Int) := by
  have := wrap_u64 (m + 1) (by omega)
  simpa using this
theorem tmod_nat (x m : Nat) : (x : Int).tmod ((m : Nat) : Int) = ((x % m : Nat) : Int) := (Int.ofNat_tmod x m).symm
end Go.Proofs.YtofkhehcnfiopaaDoor.N
namespace Go.Proofs.YtofkhehcnfiopaaDoor.N
open Go Go.RowKit Go.Proofs
set_option linter.unusedSectionVars false
variable [I : Sys]
theorem F.ent73 : Enters Tryd.prog 73 := enters_of Tryd.func73 rfl (by kernel_rfl)
theorem F.fi68_0 : FI Tryd.prog 68 0 25 0 := ⟨_, _, Tryd.underlying68, rfl, rfl, rfl⟩
theorem F.fi68_1 : FI Tryd.prog 68 1 3 1 := ⟨_, _, Tryd.underlying68, rfl, rfl, rfl⟩
theorem F.fi68_2 : FI Tryd.prog 68 2 66 2 := ⟨_, _, Tryd.underlying68, rfl, rfl, rfl⟩
theorem F.one66 : One Tryd.prog 66 := ⟨by unfold aggB; rw [Tryd.underlying66], by rw [Tryd.underlying66]; simp⟩
theorem F.ti66 : TI Tryd.prog 66 (.int .u64 0) 1 8 := TI.of (by kernel_rfl)
theorem stir_c {C : Ctx} {fr : List (Nat × Value)} {T : List Res} {a : Act} {w : World} (hC : C.P = Tryd.prog) {hb tk st nc : Nat} {nA : Option Addr} {nums : List Int} (hB : C.w0.heap.size = C.B) (hN : RdL icell 1 C.w0 nA nums) (htk : tk ≤ 1000000) (hst : st < 18446744073709551616) (ha : At C fr (.blk hb (.cells [.slice nA nums.length nc, .int .i64 (tk : Int), .int .u64 (st : Int)].toArray 68 (0, 0)) :: T) a w) : Calls C.P 73 #[.pointer (some ⟨hb, 0, none⟩)] w fun e w' => ∃ st' x : Nat, st' < 18446744073709551616 ∧ x < 18446744073709551616 ∧ e = .returned (.int .u64 (x : Int)) ∧ At C fr (.blk hb (.cells [.slice nA nums.length nc, .int .i64 ((tk + 1 : Nat) : Int), .int .u64 (st' : Int)].toArray 68 (0, 0)) :: T) a w' := by
  obtain ⟨P, B, w0, N0, ds⟩ := C
  obtain rfl : P = Tryd.prog := hC
  (try dsimp only at hB)
  (try dsimp only at hN)
  refine enter_in (N := 75) [(0, .pointer (some ⟨hb, 0, none⟩))] ha Tryd.func73 rfl Tryd.ntmps73 rfl rfl ?_
  refine cod_seq ?_
  refine cod_region ?_
  refine lst_assign rfl rfl ?_
  refine lst_nil ?_
  refine ex_then ?_
  refine cod_seq ?_
  refine cod_region ?_
  refine lst_move rfl rfl ?_
  refine lst_nilCheck rfl rfl ?_
  refine lst_field_z rfl rfl F.fi68_1 F.ti3 ?_
  refine lst_load rfl rfl F.one3 ?_
  obtain ⟨v9, hv9, ev9⟩ := u64_some (tk : Int)
  refine lst_convert rfl rfl Tryd.underlying3 Tryd.underlying66 ev9 ?_
  obtain ⟨v10, hv10, ev10⟩ := u64_some ((v9 : Int) + 1)
  refine lst_int rfl rfl rfl (fun w => bin_add w ev10) ?_
  refine lst_assign rfl rfl ?_
  refine lst_nil ?_
  refine ex_then ?_
  refine cod_seq ?_
  refine cod_seq ?_
  refine any_begin [] F.follows 10 rfl [false, false, false, false, false, false, false, false, false, false] rfl ?_
  refine any_tk 0 rfl rfl rfl (yld_move rfl) ?_
  refine any_tk 1 rfl rfl rfl (yld_nilCheck rfl) ?_
  refine any_tk 2 rfl rfl rfl (yld_field_z rfl F.fi68_1 F.ti3) ?_
  refine any_tk 3 rfl rfl rfl (yld_load rfl F.one3) ?_
  refine any_tk 4 rfl rfl rfl (yld_move rfl) ?_
  refine any_tk 5 rfl rfl rfl (yld_nilCheck rfl) ?_
  refine any_tk 6 rfl rfl rfl (yld_field_z rfl F.fi68_0 F.ti25) ?_
  refine any_tk 7 rfl rfl rfl (yld_load rfl F.one25) ?_
  refine any_tk 8 rfl rfl rfl (yld_len rfl Tryd.underlying25) ?_
  refine any_tk 9 rfl rfl rfl (yld_int rfl rfl bin_lss) ?_
  refine any_done rfl (by kernel_rfl) ?_
  refine ex_then ?_
  refine cod_cond_dec rfl (fun hc0 => ?_) (fun hc0 => ?_)
  · skip
    have hk' : tk < nums.length := by omega
    obtain ⟨b, o, rfl, hb', hcell⟩ := hN (by omega)
    obtain ⟨x, hx⟩ : ∃ x, nums[tk]? = some x := ⟨_, List.getElem?_eq_getElem hk'⟩
    obtain ⟨v32, hv32, ev32⟩ := u64_some x
    obtain ⟨v33, hv33, ev33⟩ := u64_some ((v32 : Int) * 13787848793156543929)
    refine any_begin [] F.follows 15 rfl [false, false, false, false, false, false, false, false, false, false, false, false, false, false, false] rfl ?_
    refine any_tk 0 rfl rfl rfl (yld_move rfl) ?_
    refine any_tk 1 rfl rfl rfl (yld_move rfl) ?_
    refine any_tk 2 rfl rfl rfl (yld_nilCheck rfl) ?_
    refine any_tk 3 rfl rfl rfl (yld_field_z rfl F.fi68_0 F.ti25) ?_
    refine any_tk 4 rfl rfl rfl (yld_load rfl F.one25) ?_
    refine any_tk 5 rfl rfl rfl (yld_move rfl) ?_
    refine any_tk 6 rfl rfl rfl (yld_nilCheck rfl) ?_
    refine any_tk 7 rfl rfl rfl (yld_field_z rfl F.fi68_1 F.ti3) ?_
    refine any_tk 8 rfl rfl rfl (yld_load rfl F.one3) ?_
    refine any_tk 9 rfl rfl rfl (yld_index (j := tk) rfl rfl Tryd.underlying25 F.ti3 rfl hk') ?_
    refine any_tk 10 rfl rfl rfl (yld_load_at (v := .int .i64 x) rfl F.one3 (fun a w ha => ha.old (hcell tk x hx 0 _ rfl) (Nat.lt_of_lt_of_le hb' (Nat.le_of_eq hB)))) ?_
    refine any_one 11 (by kernel_rfl) rfl rfl ?_
    refine lst_convert rfl rfl Tryd.underlying3 Tryd.underlying66 ev32 ?_
    refine lst_nil ?_
    refine any_next sbl ?_
    refine any_one 12 (by kernel_rfl) rfl rfl ?_
    refine lst_int rfl rfl rfl (fun w => bin_mul w ev33) ?_
    refine lst_nil ?_
    refine any_next sbl ?_
    refine any_one 13 (by kernel_rfl) rfl rfl ?_
    refine lst_int rfl rfl rfl (fun w => bin_xor w (u64_xor v10 v33 hv10 hv33)) ?_
    refine lst_nil ?_
    refine any_next sbl ?_
    refine any_tk 14 rfl rfl rfl (yld_assign rfl) ?_
    refine any_done rfl (by kernel_rfl) ?_
    obtain ⟨q, hqe⟩ : ∃ q, q = v10 ^^^ v33 := ⟨_, rfl⟩
    have hq : q < 18446744073709551616 := by rw [hqe]; exact xor64 hv10 hv33
    rw [← hqe]
    refine ex_then ?_
    refine cod_seq ?_
    refine cod_region ?_
    refine lst_move rfl rfl ?_
    refine lst_nilCheck rfl rfl ?_
    refine lst_field_z rfl rfl F.fi68_1 F.ti3 ?_
    refine lst_load rfl rfl F.one3 ?_
    refine lst_int rfl rfl rfl (fun w => bin_add w (show IntKind.i64.wrap ((tk : Int) + 1) = ((tk + 1 : Nat) : Int) from wrap_i64' _ (by omega) (by omega))) ?_
    refine lst_nilCheck rfl rfl ?_
    refine lst_field_z rfl rfl F.fi68_1 F.ti3 ?_
    refine lst_store rfl rfl F.ti3 rfl ?_
    refine lst_nil ?_
    refine ex_then ?_
    refine cod_seq ?_
    refine cod_region ?_
    refine lst_move rfl rfl ?_
    refine lst_move rfl rfl ?_
    refine lst_nilCheck rfl rfl ?_
    refine lst_field_z rfl rfl F.fi68_2 F.ti66 ?_
    refine lst_load rfl rfl F.one66 ?_
    refine lst_move rfl rfl ?_
    refine lst_int rfl rfl rfl (fun w => bin_xor w (u64_xor st q hst hq)) ?_
    obtain ⟨v49, hv49, ev49⟩ := u64_some (((st ^^^ q : Nat) : Int) * 10723151780598845931)
    refine lst_int rfl rfl rfl (fun w => bin_mul w ev49) ?_
    refine lst_nilCheck rfl rfl ?_
    refine lst_field_z rfl rfl F.fi68_2 F.ti66 ?_
    refine lst_store rfl rfl F.ti66 rfl ?_
    refine lst_nil ?_
    refine ex_then ?_
    refine cod_seq ?_
    refine any_begin [.b hb] F.follows 14 rfl [false, false, false, false, false, false, false, false, false, false, false, false, false, false] rfl ?_
    refine any_tk 0 rfl rfl rfl (yld_move rfl) ?_
    refine any_tk 1 rfl rfl rfl (yld_move rfl) ?_
    refine any_tk 2 rfl rfl rfl (yld_nilCheck rfl) ?_
    refine any_tk 3 rfl rfl rfl (yld_field_z rfl F.fi68_2 F.ti66) ?_
    refine any_tk 5 rfl rfl rfl (yld_move rfl) ?_
    refine any_tk 6 rfl rfl rfl (yld_nilCheck rfl) ?_
    refine any_tk 7 rfl rfl rfl (yld_field_z rfl F.fi68_2 F.ti66) ?_
    refine any_two 4 8 (by kernel_rfl) rfl rfl rfl rfl ?_ ?_
    · skip
      refine lst_load rfl rfl F.one66 ?_
      refine lst_nil ?_
      refine any_next sbl ?_
      refine any_one 8 (by kernel_rfl) rfl rfl ?_
      refine lst_load rfl rfl F.one66 ?_
      refine lst_nil ?_
      refine any_next sbl ?_
      refine any_one 9 (by kernel_rfl) rfl rfl ?_
      refine lst_shr rfl rfl rfl (by omega) (fdiv_shr v49 31 _) ?_
      refine lst_nil ?_
      refine any_next sbl ?_
      refine any_one 10 (by kernel_rfl) rfl rfl ?_
      refine lst_int rfl rfl rfl (fun w => bin_xor w (u64_xor v49 (v49 >>> (min 31 64)) hv49 (shr64 _ hv49))) ?_
      refine lst_nil ?_
      refine any_next sbl ?_
      refine any_tk 11 rfl rfl rfl (yld_nilCheck rfl) ?_
      refine any_tk 12 rfl rfl rfl (yld_field_z rfl F.fi68_2 F.ti66) ?_
      refine any_one 13 (by kernel_rfl) rfl rfl ?_
      refine lst_store rfl rfl F.ti66 rfl ?_
      refine lst_nil ?_
      refine any_next sbl ?_
      refine any_done rfl (by kernel_rfl) ?_
      refine ex_then ?_
      refine cod_seq ?_
      refine cod_region ?_
      obtain ⟨s2, hs2e⟩ : ∃ s2, s2 = v49 ^^^ (v49 >>> (min 31 64)) := ⟨_, rfl⟩
      have hs2 : s2 < 18446744073709551616 := by rw [hs2e]; exact xor64 hv49 (shr64 _ hv49)
      rw [← hs2e]
      obtain ⟨v69, hv69, ev69⟩ := u64_some ((s2 : Int) * 15485907386658061715)
      refine lst_move rfl rfl ?_
      refine lst_nilCheck rfl rfl ?_
      refine lst_field_z rfl rfl F.fi68_2 F.ti66 ?_
      refine lst_load rfl rfl F.one66 ?_
      refine lst_int rfl rfl rfl (fun w => bin_mul w ev69) ?_
      refine lst_assign rfl rfl ?_
      refine lst_nil ?_
      refine ex_then ?_
      refine cod_seq ?_
      refine cod_region ?_
      refine lst_move rfl rfl ?_
      refine lst_move rfl rfl ?_
      refine lst_shr rfl rfl rfl (by omega) (fdiv_shr v69 32 _) ?_
      refine lst_int rfl rfl rfl (fun w => bin_xor w (u64_xor v69 (v69 >>> (min 32 64)) hv69 (shr64 _ hv69))) ?_
      refine lst_shr rfl rfl rfl (by omega) (fdiv_shr (v69 ^^^ (v69 >>> (min 32 64))) 9 _) ?_
      refine lst_assign rfl rfl ?_
      refine lst_nil ?_
      refine ex_then ?_
      refine cod_ret ?_
      exact ex_ret rfl (fun a w ha => res_one rfl rfl ha) (fun _ _ ha' => ⟨s2, _, hs2, shr64 _ (xor64 hv69 (shr64 _ hv69)), rfl, ha.back (ha'.pck pkk)⟩)
    · skip
      refine lst_load rfl rfl F.one66 ?_
      refine lst_nil ?_
      refine any_next sbl ?_
      refine any_two 4 9 (by kernel_rfl) rfl rfl rfl rfl ?_ ?_
      · skip
        refine lst_load rfl rfl F.one66 ?_
        refine lst_nil ?_
        refine any_next sbl ?_
        refine any_one 9 (by kernel_rfl) rfl rfl ?_
        refine lst_shr rfl rfl rfl (by omega) (fdiv_shr v49 31 _) ?_
        refine lst_nil ?_
        refine any_next sbl ?_
        refine any_one 10 (by kernel_rfl) rfl rfl ?_
        refine lst_int rfl rfl rfl (fun w => bin_xor w (u64_xor v49 (v49 >>> (min 31 64)) hv49 (shr64 _ hv49))) ?_
        refine lst_nil ?_
        refine any_next sbl ?_
        refine any_tk 11 rfl rfl rfl (yld_nilCheck rfl) ?_
        refine any_tk 12 rfl rfl rfl (yld_field_z rfl F.fi68_2 F.ti66) ?_
        refine any_one 13 (by kernel_rfl) rfl rfl ?_
        refine lst_store rfl rfl F.ti66 rfl ?_
        refine lst_nil ?_
        refine any_next sbl ?_
        refine any_done rfl (by kernel_rfl) ?_
        refine ex_then ?_
        refine cod_seq ?_
        refine cod_region ?_
        obtain ⟨s2, hs2e⟩ : ∃ s2, s2 = v49 ^^^ (v49 >>> (min 31 64)) := ⟨_, rfl⟩
        have hs2 : s2 < 18446744073709551616 := by rw [hs2e]; exact xor64 hv49 (shr64 _ hv49)
        rw [← hs2e]
        obtain ⟨v69, hv69, ev69⟩ := u64_some ((s2 : Int) * 15485907386658061715)
        refine lst_move rfl rfl ?_
        refine lst_nilCheck rfl rfl ?_
        refine lst_field_z rfl rfl F.fi68_2 F.ti66 ?_
        refine lst_load rfl rfl F.one66 ?_
        refine lst_int rfl rfl rfl (fun w => bin_mul w ev69) ?_
        refine lst_assign rfl rfl ?_
        refine lst_nil ?_
        refine ex_then ?_
        refine cod_seq ?_
        refine cod_region ?_
        refine lst_move rfl rfl ?_
        refine lst_move rfl rfl ?_
        refine lst_shr rfl rfl rfl (by omega) (fdiv_shr v69 32 _) ?_
        refine lst_int rfl rfl rfl (fun w => bin_xor w (u64_xor v69 (v69 >>> (min 32 64)) hv69 (shr64 _ hv69))) ?_
        refine lst_shr rfl rfl rfl (by omega) (fdiv_shr (v69 ^^^ (v69 >>> (min 32 64))) 9 _) ?_
        refine lst_assign rfl rfl ?_
        refine lst_nil ?_
        refine ex_then ?_
        refine cod_ret ?_
        exact ex_ret rfl (fun a w ha => res_one rfl rfl ha) (fun _ _ ha' => ⟨s2, _, hs2, shr64 _ (xor64 hv69 (shr64 _ hv69)), rfl, ha.back (ha'.pck pkk)⟩)
      · skip
        refine lst_shr rfl rfl rfl (by omega) (fdiv_shr v49 31 _) ?_
        refine lst_nil ?_
        refine any_next sbl ?_
        refine any_one 4 (by kernel_rfl) rfl rfl ?_
        refine lst_load rfl rfl F.one66 ?_
        refine lst_nil ?_
        refine any_next sbl ?_
        refine any_one 10 (by kernel_rfl) rfl rfl ?_
        refine lst_int rfl rfl rfl (fun w => bin_xor w (u64_xor v49 (v49 >>> (min 31 64)) hv49 (shr64 _ hv49))) ?_
        refine lst_nil ?_
        refine any_next sbl ?_
        refine any_tk 11 rfl rfl rfl (yld_nilCheck rfl) ?_
        refine any_tk 12 rfl rfl rfl (yld_field_z rfl F.fi68_2 F.ti66) ?_
        refine any_one 13 (by kernel_rfl) rfl rfl ?_
        refine lst_store rfl rfl F.ti66 rfl ?_
        refine lst_nil ?_
        refine any_next sbl ?_
        refine any_done rfl (by kernel_rfl) ?_
        refine ex_then ?_
        refine cod_seq ?_
        refine cod_region ?_
        obtain ⟨s2, hs2e⟩ : ∃ s2, s2 = v49 ^^^ (v49 >>> (min 31 64)) := ⟨_, rfl⟩
        have hs2 : s2 < 18446744073709551616 := by rw [hs2e]; exact xor64 hv49 (shr64 _ hv49)
        rw [← hs2e]
        obtain ⟨v69, hv69, ev69⟩ := u64_some ((s2 : Int) * 15485907386658061715)
        refine lst_move rfl rfl ?_
        refine lst_nilCheck rfl rfl ?_
        refine lst_field_z rfl rfl F.fi68_2 F.ti66 ?_
        refine lst_load rfl rfl F.one66 ?_
        refine lst_int rfl rfl rfl (fun w => bin_mul w ev69) ?_
        refine lst_assign rfl rfl ?_
        refine lst_nil ?_
        refine ex_then ?_
        refine cod_seq ?_
        refine cod_region ?_
        refine lst_move rfl rfl ?_
        refine lst_move rfl rfl ?_
        refine lst_shr rfl rfl rfl (by omega) (fdiv_shr v69 32 _) ?_
        refine lst_int rfl rfl rfl (fun w => bin_xor w (u64_xor v69 (v69 >>> (min 32 64)) hv69 (shr64 _ hv69))) ?_
        refine lst_shr rfl rfl rfl (by omega) (fdiv_shr (v69 ^^^ (v69 >>> (min 32 64))) 9 _) ?_
        refine lst_assign rfl rfl ?_
        refine lst_nil ?_
        refine ex_then ?_
        refine cod_ret ?_
        exact ex_ret rfl (fun a w ha => res_one rfl rfl ha) (fun _ _ ha' => ⟨s2, _, hs2, shr64 _ (xor64 hv69 (shr64 _ hv69)), rfl, ha.back (ha'.pck pkk)⟩)
  · skip
    obtain ⟨q, hqe⟩ : ∃ q, q = v10 := ⟨_, rfl⟩
    have hq : q < 18446744073709551616 := by rw [hqe]; exact hv10
    rw [← hqe]
    refine cod_skip ?_
    refine ex_then ?_
    refine cod_seq ?_
    refine cod_region ?_
    refine lst_move rfl rfl ?_
    refine lst_nilCheck rfl rfl ?_
    refine lst_field_z rfl rfl F.fi68_1 F.ti3 ?_
    refine lst_load rfl rfl F.one3 ?_
    refine lst_int rfl rfl rfl (fun w => bin_add w (show IntKind.i64.wrap ((tk : Int) + 1) = ((tk + 1 : Nat) : Int) from wrap_i64' _ (by omega) (by omega))) ?_
    refine lst_nilCheck rfl rfl ?_
    refine lst_field_z rfl rfl F.fi68_1 F.ti3 ?_
    refine lst_store rfl rfl F.ti3 rfl ?_
    refine lst_nil ?_
    refine ex_then ?_
    refine cod_seq ?_
    refine cod_region ?_
    refine lst_move rfl rfl ?_
    refine lst_move rfl rfl ?_
    refine lst_nilCheck rfl rfl ?_
    refine lst_field_z rfl rfl F.fi68_2 F.ti66 ?_
    refine lst_load rfl rfl F.one66 ?_
    refine lst_move rfl rfl ?_
    refine lst_int rfl rfl rfl (fun w => bin_xor w (u64_xor st q hst hq)) ?_
    obtain ⟨v49, hv49, ev49⟩ := u64_some (((st ^^^ q : Nat) : Int) * 10723151780598845931)
    refine lst_int rfl rfl rfl (fun w => bin_mul w ev49) ?_
    refine lst_nilCheck rfl rfl ?_
    refine lst_field_z rfl rfl F.fi68_2 F.ti66 ?_
    refine lst_store rfl rfl F.ti66 rfl ?_
    refine lst_nil ?_
    refine ex_then ?_
    refine cod_seq ?_
    refine any_begin [.b hb] F.follows 14 rfl [false, false, false, false, false, false, false, false, false, false, false, false, false, false] rfl ?_
    refine any_tk 0 rfl rfl rfl (yld_move rfl) ?_
    refine any_tk 1 rfl rfl rfl (yld_move rfl) ?_
    refine any_tk 2 rfl rfl rfl (yld_nilCheck rfl) ?_
    refine any_tk 3 rfl rfl rfl (yld_field_z rfl F.fi68_2 F.ti66) ?_
    refine any_tk 5 rfl rfl rfl (yld_move rfl) ?_
    refine any_tk 6 rfl rfl rfl (yld_nilCheck rfl) ?_
    refine any_tk 7 rfl rfl rfl (yld_field_z rfl F.fi68_2 F.ti66) ?_
    refine any_two 4 8 (by kernel_rfl) rfl rfl rfl rfl ?_ ?_
    · skip
      refine lst_load rfl rfl F.one66 ?_
      refine lst_nil ?_
      refine any_next sbl ?_
      refine any_one 8 (by kernel_rfl) rfl rfl ?_
      refine lst_load rfl rfl F.one66 ?_
      refine lst_nil ?_
      refine any_next sbl ?_
      refine any_one 9 (by kernel_rfl) rfl rfl ?_
      refine lst_shr rfl rfl rfl (by omega) (fdiv_shr v49 31 _) ?_
      refine lst_nil ?_
      refine any_next sbl ?_
      refine any_one 10 (by kernel_rfl) rfl rfl ?_
      refine lst_int rfl rfl rfl (fun w => bin_xor w (u64_xor v49 (v49 >>> (min 31 64)) hv49 (shr64 _ hv49))) ?_
      refine lst_nil ?_
      refine any_next sbl ?_
      refine any_tk 11 rfl rfl rfl (yld_nilCheck rfl) ?_
      refine any_tk 12 rfl rfl rfl (yld_field_z rfl F.fi68_2 F.ti66) ?_
      refine any_one 13 (by kernel_rfl) rfl rfl ?_
      refine lst_store rfl rfl F.ti66 rfl ?_
      refine lst_nil ?_
      refine any_next sbl ?_
      refine any_done rfl (by kernel_rfl) ?_
      refine ex_then ?_
      refine cod_seq ?_
      refine cod_region ?_
      obtain ⟨s2, hs2e⟩ : ∃ s2, s2 = v49 ^^^ (v49 >>> (min 31 64)) := ⟨_, rfl⟩
      have hs2 : s2 < 18446744073709551616 := by rw [hs2e]; exact xor64 hv49 (shr64 _ hv49)
      rw [← hs2e]
      obtain ⟨v69, hv69, ev69⟩ := u64_some ((s2 : Int) * 15485907386658061715)
      refine lst_move rfl rfl ?_
      refine lst_nilCheck rfl rfl ?_
      refine lst_field_z rfl rfl F.fi68_2 F.ti66 ?_
      refine lst_load rfl rfl F.one66 ?_
      refine lst_int rfl rfl rfl (fun w => bin_mul w ev69) ?_
      refine lst_assign rfl rfl ?_
      refine lst_nil ?_
      refine ex_then ?_
      refine cod_seq ?_
      refine cod_region ?_
      refine lst_move rfl rfl ?_
      refine lst_move rfl rfl ?_
      refine lst_shr rfl rfl rfl (by omega) (fdiv_shr v69 32 _) ?_
      refine lst_int rfl rfl rfl (fun w => bin_xor w (u64_xor v69 (v69 >>> (min 32 64)) hv69 (shr64 _ hv69))) ?_
      refine lst_shr rfl rfl rfl (by omega) (fdiv_shr (v69 ^^^ (v69 >>> (min 32 64))) 9 _) ?_
      refine lst_assign rfl rfl ?_
      refine lst_nil ?_
      refine ex_then ?_
      refine cod_ret ?_
      exact ex_ret rfl (fun a w ha => res_one rfl rfl ha) (fun _ _ ha' => ⟨s2, _, hs2, shr64 _ (xor64 hv69 (shr64 _ hv69)), rfl, ha.back (ha'.pck pkk)⟩)
    · skip
      refine lst_load rfl rfl F.one66 ?_
      refine lst_nil ?_
      refine any_next sbl ?_
      refine any_two 4 9 (by kernel_rfl) rfl rfl rfl rfl ?_ ?_
      · skip
        refine lst_load rfl rfl F.one66 ?_
        refine lst_nil ?_
        refine any_next sbl ?_
        refine any_one 9 (by kernel_rfl) rfl rfl ?_
        refine lst_shr rfl rfl rfl (by omega) (fdiv_shr v49 31 _) ?_
        refine lst_nil ?_
        refine any_next sbl ?_
        refine any_one 10 (by kernel_rfl) rfl rfl ?_
        refine lst_int rfl rfl rfl (fun w => bin_xor w (u64_xor v49 (v49 >>> (min 31 64)) hv49 (shr64 _ hv49))) ?_
        refine lst_nil ?_
        refine any_next sbl ?_
        refine any_tk 11 rfl rfl rfl (yld_nilCheck rfl) ?_
        refine any_tk 12 rfl rfl rfl (yld_field_z rfl F.fi68_2 F.ti66) ?_
        refine any_one 13 (by kernel_rfl) rfl rfl ?_
        refine lst_store rfl rfl F.ti66 rfl ?_
        refine lst_nil ?_
        refine any_next sbl ?_
        refine any_done rfl (by kernel_rfl) ?_
        refine ex_then ?_
        refine cod_seq ?_
        refine cod_region ?_
        obtain ⟨s2, hs2e⟩ : ∃ s2, s2 = v49 ^^^ (v49 >>> (min 31 64)) := ⟨_, rfl⟩
        have hs2 : s2 < 18446744073709551616 := by rw [hs2e]; exact xor64 hv49 (shr64 _ hv49)
        rw [← hs2e]
        obtain ⟨v69, hv69, ev69⟩ := u64_some ((s2 : Int) * 15485907386658061715)
        refine lst_move rfl rfl ?_
        refine lst_nilCheck rfl rfl ?_
        refine lst_field_z rfl rfl F.fi68_2 F.ti66 ?_
        refine lst_load rfl rfl F.one66 ?_
        refine lst_int rfl rfl rfl (fun w => bin_mul w ev69) ?_
        refine lst_assign rfl rfl ?_
        refine lst_nil ?_
        refine ex_then ?_
        refine cod_seq ?_
        refine cod_region ?_
        refine lst_move rfl rfl ?_
        refine lst_move rfl rfl ?_
        refine lst_shr rfl rfl rfl (by omega) (fdiv_shr v69 32 _) ?_
        refine lst_int rfl rfl rfl (fun w => bin_xor w (u64_xor v69 (v69 >>> (min 32 64)) hv69 (shr64 _ hv69))) ?_
        refine lst_shr rfl rfl rfl (by omega) (fdiv_shr (v69 ^^^ (v69 >>> (min 32 64))) 9 _) ?_
        refine lst_assign rfl rfl ?_
        refine lst_nil ?_
        refine ex_then ?_
        refine cod_ret ?_
        exact ex_ret rfl (fun a w ha => res_one rfl rfl ha) (fun _ _ ha' => ⟨s2, _, hs2, shr64 _ (xor64 hv69 (shr64 _ hv69)), rfl, ha.back (ha'.pck pkk)⟩)
      · skip
        refine lst_shr rfl rfl rfl (by omega) (fdiv_shr v49 31 _) ?_
        refine lst_nil ?_
        refine any_next sbl ?_
        refine any_one 4 (by kernel_rfl) rfl rfl ?_
        refine lst_load rfl rfl F.one66 ?_
        refine lst_nil ?_
        refine any_next sbl ?_
        refine any_one 10 (by kernel_rfl) rfl rfl ?_
        refine lst_int rfl rfl rfl (fun w => bin_xor w (u64_xor v49 (v49 >>> (min 31 64)) hv49 (shr64 _ hv49))) ?_
        refine lst_nil ?_
        refine any_next sbl ?_
        refine any_tk 11 rfl rfl rfl (yld_nilCheck rfl) ?_
        refine any_tk 12 rfl rfl rfl (yld_field_z rfl F.fi68_2 F.ti66) ?_
        refine any_one 13 (by kernel_rfl) rfl rfl ?_
        refine lst_store rfl rfl F.ti66 rfl ?_
        refine lst_nil ?_
        refine any_next sbl ?_
        refine any_done rfl (by kernel_rfl) ?_
        refine ex_then ?_
        refine cod_seq ?_
        refine cod_region ?_
        obtain ⟨s2, hs2e⟩ : ∃ s2, s2 = v49 ^^^ (v49 >>> (min 31 64)) := ⟨_, rfl⟩
        have hs2 : s2 < 18446744073709551616 := by rw [hs2e]; exact xor64 hv49 (shr64 _ hv49)
        rw [← hs2e]
        obtain ⟨v69, hv69, ev69⟩ := u64_some ((s2 : Int) * 15485907386658061715)
        refine lst_move rfl rfl ?_
        refine lst_nilCheck rfl rfl ?_
        refine lst_field_z rfl rfl F.fi68_2 F.ti66 ?_
        refine lst_load rfl rfl F.one66 ?_
        refine lst_int rfl rfl rfl (fun w => bin_mul w ev69) ?_
        refine lst_assign rfl rfl ?_
        refine lst_nil ?_
        refine ex_then ?_
        refine cod_seq ?_
        refine cod_region ?_
        refine lst_move rfl rfl ?_
        refine lst_move rfl rfl ?_
        refine lst_shr rfl rfl rfl (by omega) (fdiv_shr v69 32 _) ?_
        refine lst_int rfl rfl rfl (fun w => bin_xor w (u64_xor v69 (v69 >>> (min 32 64)) hv69 (shr64 _ hv69))) ?_
        refine lst_shr rfl rfl rfl (by omega) (fdiv_shr (v69 ^^^ (v69 >>> (min 32 64))) 9 _) ?_
        refine lst_assign rfl rfl ?_
        refine lst_nil ?_
        refine ex_then ?_
        refine cod_ret ?_
        exact ex_ret rfl (fun a w ha => res_one rfl rfl ha) (fun _ _ ha' => ⟨s2, _, hs2, shr64 _ (xor64 hv69 (shr64 _ hv69)), rfl, ha.back (ha'.pck pkk)⟩)

theorem To_c {C : Ctx} {fr : List (Nat × Value)} {T : List Res} {a : Act} {w : World} (hC : C.P = Tryd.prog) {hb tk st nc : Nat} {nA : Option Addr} {nums : List Int} (hB : C.w0.heap.size = C.B) (hN : RdL icell 1 C.w0 nA nums) (htk : tk ≤ 1000000) (hst : st < 18446744073709551616) {n : Int} (hn : n ≤ 1000000)  (ha : At C fr (.blk hb (.cells [.slice nA nums.length nc, .int .i64 (tk : Int), .int .u64 (st : Int)].toArray 68 (0, 0)) :: T) a w) : Calls C.P 25 #[.pointer (some ⟨hb, 0, none⟩), .int .i64 n] w fun e w' => ∃ st' x : Nat, st' < 18446744073709551616 ∧ x ≤ n.toNat ∧ e = .returned (.int .i64 (x : Int)) ∧ At C fr (.blk hb (.cells [.slice nA nums.length nc, .int .i64 ((tk + 1 : Nat) : Int), .int .u64 (st' : Int)].toArray 68 (0, 0)) :: T) a w' := by
  obtain ⟨P, B, w0, N0, ds⟩ := C
  obtain rfl : P = Tryd.prog := hC
  (try dsimp only at hB)
  (try dsimp only at hN)
  refine enter_in (N := 16) [(0, .pointer (some ⟨hb, 0, none⟩)), (1, .int .i64 n)] ha Tryd.func25 rfl Tryd.ntmps25 rfl rfl ?_
  refine cod_seq ?_
  refine cod_region ?_
  refine lst_assign rfl rfl ?_
  refine lst_nil ?_
  refine ex_then ?_
  refine cod_seq ?_
  refine cod_region ?_
  refine lst_move rfl rfl ?_
  refine lst_call (X := Nat × Nat) (first := []) (cap := []) (vs := [_]) (p := fun y => y.1 < 18446744073709551616 ∧ y.2 < 18446744073709551616) (val := fun y => .int .u64 (y.2 : Int)) (rs := fun y => .blk hb (.cells [.slice nA nums.length nc, .int .i64 ((tk + 1 : Nat) : Int), .int .u64 (y.1 : Int)].toArray 68 (0, 0)) :: T) rfl rfl rfl F.ent73 (fun a w ha => (stir_c (C := ⟨Tryd.prog, B, w0, _, _⟩) rfl hB hN htk hst ha).mono (fun e w' h => by obtain ⟨s', x, h1, h2, h3, h4⟩ := h; exact ⟨(s', x), ⟨h1, h2⟩, h3, h4⟩)) ?_
  rintro ⟨s1, x⟩ ⟨hs1, hx⟩
  dsimp only at hs1 hx ⊢
  refine lst_assign rfl rfl ?_
  refine lst_nil ?_
  refine ex_then ?_
  refine cod_seq ?_
  refine cod_seq ?_
  refine cod_region ?_
  refine lst_move rfl rfl ?_
  refine lst_int rfl rfl rfl bin_lss ?_
  refine lst_nil ?_
  refine ex_then ?_
  refine cod_cond_dec rfl (fun hc0 => ?_) (fun hc0 => ?_)
  · skip
    refine cod_seq ?_
    refine cod_region ?_
    refine lst_assign rfl rfl ?_
    refine lst_nil ?_
    refine ex_then ?_
    refine cod_ret ?_
    refine ex_then_ret ?_
    exact ex_ret rfl (fun a w ha => res_one rfl rfl ha) (fun _ _ ha' => ⟨s1, 0, hs1, Nat.zero_le _, rfl, ha.back (ha'.pck pkk)⟩)
  · skip
    obtain ⟨m, rfl⟩ := Int.eq_ofNat_of_zero_le (show 0 ≤ n by omega)
    refine cod_skip ?_
    refine ex_then ?_
    refine cod_seq ?_
    refine cod_region ?_
    refine lst_move rfl rfl ?_
    refine lst_move rfl rfl ?_
    refine lst_convert rfl rfl Tryd.underlying3 Tryd.underlying66 (wrap_u64 m (by omega)) ?_
    refine lst_int rfl rfl rfl (fun w => bin_add w (wrap_u64_succ (by omega))) ?_
    refine lst_int rfl rfl rfl (fun w => bin_rem w (by omega) (tmod_nat x (m + 1))) ?_
    have hmod : x % (m + 1) < m + 1 := Nat.mod_lt _ (by omega)
    refine lst_convert rfl rfl Tryd.underlying66 Tryd.underlying3 (wrap_i64' _ (by omega) (by omega)) ?_
    refine lst_assign rfl rfl ?_
    refine lst_nil ?_
    refine ex_then ?_
    refine cod_ret ?_
    exact ex_ret rfl (fun a w ha => res_one rfl rfl ha) (fun _ _ ha' => ⟨s1, x % (m + 1), hs1, by rw [Int.toNat_natCast]; omega, rfl, ha.back (ha'.pck pkk)⟩)

end Go.Proofs.YtofkhehcnfiopaaDoor.N
namespace Go.Proofs.YtofkhehcnfiopaaDoor.N
open Go Go.RowKit Go.Proofs
set_option linter.unusedSectionVars false
variable [I : Sys]
/-- A block pulled to the front. -/
class Pul (b : Nat) (o : outParam Obj) (hp : List Res) (T : outParam (List Res)) : Prop where
  perm : hp.Perm (.blk b o :: T)
instance Pul.tail (b : Nat) (o : Obj) (x : Res) (l T : List Res) [h : Pul b o l T] : Pul b o (x :: l) (x :: T) := ⟨(h.perm.cons x).trans (.swap _ _ _)⟩
instance Pul.head (b : Nat) (o : Obj) (l : List Res) : Pul b o (.blk b o :: l) l := ⟨.refl _⟩
section
variable {C : Ctx} {fr : List (Nat × Value)} {hp hp' : List Res} {a : Act} {w : World} {ops : Array Oper} {Q : Exit → Act → World → Prop} {rest : List Oper}
  {d : Nat} {ty : TypeId} {pos : String} {after : Array Edge}
theorem lst_call_pul {X : Type} (b : Nat) {o : Obj} (o' : X → Obj) {T : List Res} {f : FuncId} {vs : List Value} {args : Array Operand} {ts : Array TypeId} (p : X → Prop) (val : X → Value) [hq : Pul b o hp T] (hd : Nat.blt d C.N = true)
    (hargs : args.toList.map (ev fr) = vs.map some) (hf : Enters C.P f)
    (hc : ∀ a w, At C fr (.blk b o :: T) a w → Calls C.P f vs.toArray w fun e w' => ∃ y, p y ∧ e = .returned (val y) ∧ At C fr (.blk b (o' y) :: T) a w')
    (k : ∀ y, p y → Lst C ops Q rest ((d, val y) :: fr) (.blk b (o' y) :: T)) : Lst C ops Q (⟨some d, .call { callee := .value (.func f), args := args, argTypes := ts }, ty, pos, after, none⟩ :: rest) fr hp := by
  refine lst_call (first := []) (cap := []) (p := p) (val := val) (rs := fun y => .blk b (o' y) :: T) hd rfl hargs hf (fun a w ha => ?_) k
  simp only [List.nil_append, List.append_nil]
  exact hc a w (ha.permed hq.perm)
end
/-- The hat. -/
def hatO (nA : Option Addr) (n nc tk st : Nat) : Obj := .cells [.slice nA n nc, .int .i64 (tk : Int), .int .u64 (st : Int)].toArray 68 (0, 0)
theorem shl_i64 {k : Nat} (h : k ≤ 20) : IntKind.i64.wrap (1 * 2 ^ (min ((k : Int)).toNat IntKind.i64.bits)) = ((2 ^ k : Nat) : Int) := by
  have hm : min ((k : Int)).toNat IntKind.i64.bits = k := by rw [Int.toNat_natCast]; exact Nat.min_eq_left (by show k ≤ 64; omega)
  rw [hm, Int.one_mul]
  have hp : (2 : Nat) ^ k ≤ 2 ^ 20 := Nat.pow_le_pow_right (by omega) h
  have hc : ((2 : Int) ^ k) = ((2 ^ k : Nat) : Int) := by simp
  rw [hc]
  generalize (2 : Nat) ^ k = q at hp
  exact wrap_i64' _ (by omega) (by omega)
theorem add_pow {n k : Nat} (h : n < 2 ^ k) : n + 2 ^ k < 2 ^ (k + 1) := by rw [Nat.pow_succ]; omega
theorem pow_le20 {k : Nat} (h : k ≤ 20) : 2 ^ k ≤ 1048576 := Nat.pow_le_pow_right (n := 2) (by omega) h
end Go.Proofs.YtofkhehcnfiopaaDoor.N
namespace Go.Proofs.YtofkhehcnfiopaaDoor.N
open Go Go.RowKit Go.Proofs
set_option linter.unusedSectionVars false
variable [I : Sys]
theorem F.ent25 : Enters Tryd.prog 25 := enters_of Tryd.func25 rfl (by kernel_rfl)
theorem F.ent93 : Enters Tryd.prog 93 := enters_of Tryd.func93 rfl (by kernel_rfl)
theorem From_c {C : Ctx} {fr : List (Nat × Value)} {T : List Res} {a : Act} {w : World} (hC : C.P = Tryd.prog) {hb tk st nc : Nat} {nA : Option Addr} {nums : List Int} (hB : C.w0.heap.size = C.B) (hN : RdL icell 1 C.w0 nA nums) (htk : tk ≤ 1000000) (hst : st < 18446744073709551616) {lo hi : Nat} (hlh : lo ≤ hi) (hhi : hi ≤ 1000) (ha : At C fr (.blk hb (hatO nA nums.length nc (tk) (st)) :: T) a w) : Calls C.P 87 #[.pointer (some ⟨hb, 0, none⟩), .int .i64 (lo : Int), .int .i64 (hi : Int)] w fun e w' => ∃ st' x : Nat, st' < 18446744073709551616 ∧ lo ≤ x ∧ x ≤ hi ∧ e = .returned (.int .i64 (x : Int)) ∧ At C fr (.blk hb (hatO nA nums.length nc (tk + 1) (st')) :: T) a w' := by
  obtain ⟨P, B, w0, N0, ds⟩ := C
  obtain rfl : P = Tryd.prog := hC
  (try dsimp only at hB)
  (try dsimp only at hN)
  refine enter_in (N := 14) [(0, .pointer (some ⟨hb, 0, none⟩)), (1, .int .i64 (lo : Int)), (2, .int .i64 (hi : Int))] ha Tryd.func87 rfl Tryd.ntmps87 rfl rfl ?_
  refine cod_seq ?_
  refine cod_region ?_
  refine lst_assign rfl rfl ?_
  refine lst_nil ?_
  refine ex_then ?_
  refine cod_seq ?_
  refine cod_region ?_
  refine lst_move rfl rfl ?_
  refine lst_move rfl rfl ?_
  refine lst_move rfl rfl ?_
  refine lst_move rfl rfl ?_
  refine lst_int rfl rfl rfl (fun w => bin_sub w (wrap_i64' ((hi : Int) - (lo : Int)) (by omega) (by omega))) ?_
  refine lst_call_pul (X := Nat × Nat) (vs := [_, _]) hb (fun y => hatO nA nums.length nc (tk + 1) (y.1)) (fun y => y.1 < 18446744073709551616 ∧ y.2 ≤ ((hi : Int) - (lo : Int) : Int).toNat) (fun y => .int .i64 (y.2 : Int)) rfl rfl F.ent25 (fun a w ha => (To_c (C := ⟨Tryd.prog, B, w0, _, _⟩) rfl hB hN (tk := tk) (st := st) (n := (hi : Int) - (lo : Int)) (by omega) hst (by omega) ha).mono (fun e w' h => by obtain ⟨s', x, h1, h2, h3, h4⟩ := h; exact ⟨(s', x), ⟨h1, h2⟩, h3, h4⟩)) ?_
  rintro ⟨s1, x1⟩ ⟨hs1, hx1⟩
  dsimp only at hs1 hx1 ⊢
  refine lst_int rfl rfl rfl (fun w => bin_add w (show IntKind.i64.wrap ((lo : Int) + (x1 : Int)) = ((lo + x1 : Nat) : Int) from wrap_i64' _ (by omega) (by omega))) ?_
  refine lst_assign rfl rfl ?_
  refine lst_nil ?_
  refine ex_then ?_
  refine cod_ret ?_
  exact ex_ret rfl (fun a w ha => res_one rfl rfl ha) (fun _ _ ha' => ⟨s1, lo + x1, hs1, by omega, by omega, rfl, ha.back (ha'.pck pkk)⟩)

theorem Seldom_c {C : Ctx} {fr : List (Nat × Value)} {T : List Res} {a : Act} {w : World} (hC : C.P = Tryd.prog) {hb tk st nc : Nat} {nA : Option Addr} {nums : List Int} (hB : C.w0.heap.size = C.B) (hN : RdL icell 1 C.w0 nA nums) (htk : tk ≤ 1000000) (hst : st < 18446744073709551616) {n : Int} (hn0 : 0 ≤ n) (hn : n ≤ 1000) (ha : At C fr (.blk hb (hatO nA nums.length nc (tk) (st)) :: T) a w) : Calls C.P 93 #[.pointer (some ⟨hb, 0, none⟩), .int .i64 n] w fun e w' => ∃ (st' : Nat) (b : Bool), st' < 18446744073709551616 ∧ e = .returned (.bool b) ∧ At C fr (.blk hb (hatO nA nums.length nc (tk + 1) (st')) :: T) a w' := by
  obtain ⟨P, B, w0, N0, ds⟩ := C
  obtain rfl : P = Tryd.prog := hC
  (try dsimp only at hB)
  (try dsimp only at hN)
  refine enter_in (N := 10) [(0, .pointer (some ⟨hb, 0, none⟩)), (1, .int .i64 n)] ha Tryd.func93 rfl Tryd.ntmps93 rfl rfl ?_
  refine cod_seq ?_
  refine cod_region ?_
  refine lst_assign rfl rfl ?_
  refine lst_nil ?_
  refine ex_then ?_
  refine cod_seq ?_
  refine cod_region ?_
  refine lst_move rfl rfl ?_
  refine lst_move rfl rfl ?_
  refine lst_int rfl rfl rfl (fun w => bin_sub w (wrap_i64' (n - 1) (by omega) (by omega))) ?_
  refine lst_call_pul (X := Nat × Nat) (vs := [_, _]) hb (fun y => hatO nA nums.length nc (tk + 1) (y.1)) (fun y => y.1 < 18446744073709551616 ∧ y.2 ≤ (n - 1 : Int).toNat) (fun y => .int .i64 (y.2 : Int)) rfl rfl F.ent25 (fun a w ha => (To_c (C := ⟨Tryd.prog, B, w0, _, _⟩) rfl hB hN (tk := tk) (st := st) (n := n - 1) (by omega) hst (by omega) ha).mono (fun e w' h => by obtain ⟨s', x, h1, h2, h3, h4⟩ := h; exact ⟨(s', x), ⟨h1, h2⟩, h3, h4⟩)) ?_
  rintro ⟨s1, x1⟩ ⟨hs1, hx1⟩
  dsimp only at hs1 hx1 ⊢
  refine lst_int rfl rfl rfl bin_eql ?_
  refine lst_assign rfl rfl ?_
  refine lst_nil ?_
  refine ex_then ?_
  refine cod_ret ?_
  exact ex_ret rfl (fun a w ha => res_one rfl rfl ha) (fun _ _ ha' => ⟨s1, _, hs1, rfl, ha.back (ha'.pck pkk)⟩)

theorem FaultsOf_c {C : Ctx} {fr : List (Nat × Value)} {T : List Res} {a : Act} {w : World} (hC : C.P = Tryd.prog) {hb tk st nc : Nat} {nA : Option Addr} {nums : List Int} (hB : C.w0.heap.size = C.B) (hN : RdL icell 1 C.w0 nA nums) (htk : tk ≤ 999000) (hst : st < 18446744073709551616) {few : Nat} (hfew : few ≤ 6) (ha : At C fr (.blk hb (hatO nA nums.length nc (tk) (st)) :: T) a w) : Calls C.P 63 #[.pointer (some ⟨hb, 0, none⟩), .int .i64 (few : Int)] w fun e w' => ∃ st' x : Nat, st' < 18446744073709551616 ∧ x < 2 ^ few ∧ e = .returned (.int .i64 (x : Int)) ∧ At C fr (.blk hb (hatO nA nums.length nc (tk + few) (st')) :: T) a w' := by
  obtain ⟨P, B, w0, N0, ds⟩ := C
  obtain rfl : P = Tryd.prog := hC
  (try dsimp only at hB)
  (try dsimp only at hN)
  refine enter_in (N := 19) [(0, .pointer (some ⟨hb, 0, none⟩)), (1, .int .i64 (few : Int))] ha Tryd.func63 rfl Tryd.ntmps63 rfl rfl ?_
  refine cod_seq ?_
  refine cod_region ?_
  refine lst_assign rfl rfl ?_
  refine lst_nil ?_
  refine ex_then ?_
  refine cod_seq ?_
  refine cod_region ?_
  refine lst_assign rfl rfl ?_
  refine lst_nil ?_
  refine ex_then ?_
  refine cod_seq ?_
  refine cod_seq ?_
  refine cod_region ?_
  refine lst_assign rfl rfl ?_
  refine lst_nil ?_
  refine ex_then ?_
  refine cod_block ?_
  refine cod_loop (G := Nat × Nat × Nat) (fun g => g.1 ≤ few ∧ g.2.1 < 2 ^ g.1 ∧ g.2.2 < 18446744073709551616) (fun g => few - g.1) (fun g => [(0, .pointer (some ⟨hb, 0, none⟩)), (1, .int .i64 (few : Int)), (5, .int .i64 (g.2.1 : Int)), (6, .int .i64 (g.1 : Int))]) (fun g => .blk hb (hatO nA nums.length nc (tk + g.1) (g.2.2)) :: T) (0, 0, st) ⟨Nat.zero_le _, Nat.one_pos, hst⟩ sbn sbl ?_
  rintro ⟨k, q, s0⟩ hk
  (try dsimp only at hk ⊢)
  refine cod_seq ?_
  refine cod_seq ?_
  refine cod_region ?_
  refine lst_move rfl rfl ?_
  refine lst_move rfl rfl ?_
  refine lst_int rfl rfl rfl bin_lss ?_
  refine lst_nil ?_
  refine ex_then ?_
  refine cod_cond_dec rfl (fun hc0 => ?_) (fun hc0 => ?_)
  · skip
    have hk' : k < few := by omega
    have hpw := pow_le20 (k := k) (by omega)
    refine cod_skip ?_
    refine ex_then ?_
    refine cod_seq ?_
    refine cod_block ?_
    refine cod_seq ?_
    refine cod_region ?_
    refine lst_move rfl rfl ?_
    refine lst_call_pul (X := Nat × Bool) (vs := [_, _]) hb (fun y => hatO nA nums.length nc (tk + k + 1) (y.1)) (fun y => y.1 < 18446744073709551616) (fun y => .bool y.2) rfl rfl F.ent93 (fun a w ha => (Seldom_c (C := ⟨Tryd.prog, B, w0, _, _⟩) rfl hB hN (tk := tk + k) (st := s0) (n := 3) (by omega) hk.2.2 (by omega) (by omega) ha).mono (fun e w' h => by obtain ⟨s', b, h1, h2, h3⟩ := h; exact ⟨(s', b), h1, h2, h3⟩)) ?_
    rintro ⟨s1, bl⟩ hs1
    dsimp only at hs1 ⊢
    refine lst_nil ?_
    refine ex_then ?_
    refine cod_cond_bool rfl (fun hc1 => ?_) (fun hc1 => ?_)
    · skip
      refine cod_region ?_
      refine lst_move rfl rfl ?_
      refine lst_move rfl rfl ?_
      refine lst_shl rfl rfl rfl (by omega) (shl_i64 (by omega)) ?_
      refine lst_int rfl rfl rfl (fun w => bin_add w (show IntKind.i64.wrap ((q : Int) + ((2 ^ k : Nat) : Int)) = ((q + 2 ^ k : Nat) : Int) from wrap_i64' _ (by omega) (by omega))) ?_
      refine lst_assign rfl rfl ?_
      refine lst_nil ?_
      refine ex_block_normal ?_
      refine ex_then ?_
      refine cod_region ?_
      refine lst_move rfl rfl ?_
      refine lst_int rfl rfl rfl (fun w => bin_add w (wrap_i64' _ (by omega) (by omega))) ?_
      refine lst_assign rfl rfl ?_
      refine lst_nil ?_
      refine ex_round (k + 1, q + 2 ^ k, s1) ⟨by omega, add_pow hk.2.1, hs1⟩ (by (try dsimp only); omega) sbn sbl
    · skip
      refine cod_skip ?_
      refine ex_block_normal ?_
      refine ex_then ?_
      refine cod_region ?_
      refine lst_move rfl rfl ?_
      refine lst_int rfl rfl rfl (fun w => bin_add w (wrap_i64' _ (by omega) (by omega))) ?_
      refine lst_assign rfl rfl ?_
      refine lst_nil ?_
      refine ex_round (k + 1, q, s1) ⟨by omega, by have h2 := hk.2.1; dsimp only; rw [Nat.pow_succ]; omega, hs1⟩ (by (try dsimp only); omega) sbn sbl
  · skip
    refine cod_exit ?_
    refine ex_then_exit ?_
    refine ex_then_exit ?_
    refine ex_block_exit ?_
    refine ex_then ?_
    refine cod_seq ?_
    refine cod_region ?_
    refine lst_move rfl rfl ?_
    refine lst_assign rfl rfl ?_
    refine lst_nil ?_
    refine ex_then ?_
    refine cod_ret ?_
    obtain rfl : k = few := by omega
    exact ex_ret rfl (fun a w ha => res_one rfl rfl ha) (fun _ _ ha' => ⟨s0, q, hk.2.2, hk.2.1, rfl, ha.back (ha'.pck pkk)⟩)

end Go.Proofs.YtofkhehcnfiopaaDoor.N
namespace Go.Proofs.YtofkhehcnfiopaaDoor.N
open Go Go.RowKit Go.Proofs
set_option linter.unusedSectionVars false
variable [I : Sys]
theorem nn_apart (a b : Nat) : b &&& nn a b = 0 := by
  apply Nat.eq_of_testBit_eq
  intro i
  simp [nn, Nat.testBit_and, Nat.testBit_xor]
  cases a.testBit i <;> cases b.testBit i <;> simp
theorem or64 {a b : Nat} (ha : a < 64) (hb : b < 64) : a ||| b < 64 := Nat.or_lt_two_pow (n := 6) ha hb
theorem and64 {a b : Nat} (ha : a < 64) : a &&& b < 64 := Nat.lt_of_le_of_lt Nat.and_le_left ha
theorem nn64 {a b : Nat} (ha : a < 64) : nn a b < 64 := nn_lt (n := 6) ha
theorem pow64 {k few : Nat} (hk : k ≤ ((few : Int) - 1).toNat) (hf : 1 ≤ few) (hfew : few ≤ 6) : 2 ^ k < 64 := by
  have h5 : k ≤ 5 := by omega
  exact Nat.lt_of_le_of_lt (Nat.pow_le_pow_right (n := 2) (by omega) h5) (by omega)
theorem few64 {f few : Nat} (h : f < 2 ^ few) (hfew : few ≤ 6) : f < 64 := Nat.lt_of_lt_of_le h (show 2 ^ few ≤ 2 ^ 6 from Nat.pow_le_pow_right (by omega) hfew)
end Go.Proofs.YtofkhehcnfiopaaDoor.N
namespace Go.Proofs.YtofkhehcnfiopaaDoor.N
open Go Go.RowKit Go.Proofs
set_option linter.unusedSectionVars false
variable [I : Sys]
theorem F.ent63 : Enters Tryd.prog 63 := enters_of Tryd.func63 rfl (by kernel_rfl)
theorem F.ent87 : Enters Tryd.prog 87 := enters_of Tryd.func87 rfl (by kernel_rfl)
theorem AgentOf_c {C : Ctx} {fr : List (Nat × Value)} {T : List Res} {a : Act} {w : World} (hC : C.P = Tryd.prog) {hb tk st nc : Nat} {nA : Option Addr} {nums : List Int} (hB : C.w0.heap.size = C.B) (hN : RdL icell 1 C.w0 nA nums) (htk : tk ≤ 990000) (hst : st < 18446744073709551616) {few : Nat} (hf1 : 1 ≤ few) (hfew : few ≤ 6) (ha : At C fr (.blk hb (hatO nA nums.length nc (tk) (st)) :: T) a w) : Calls C.P 50 #[.pointer (some ⟨hb, 0, none⟩), .int .i64 (few : Int)] w fun e w' => ∃ (tk' st' : Nat) (x : Ag), tk' ≤ tk + 40 ∧ st' < 18446744073709551616 ∧ x.ok ∧ e = .returned (.agg [.int .i64 (x.needs : Int), .int .i64 (x.no : Int), .int .i64 (x.takes : Int), .int .i64 (x.leaves : Int), .int .i64 (x.cost : Int)].toArray) ∧ At C fr (.blk hb (hatO nA nums.length nc (tk') (st')) :: T) a w' := by
  obtain ⟨P, B, w0, N0, ds⟩ := C
  obtain rfl : P = Tryd.prog := hC
  (try dsimp only at hB)
  (try dsimp only at hN)
  refine enter_in (N := 53) [(0, .pointer (some ⟨hb, 0, none⟩)), (1, .int .i64 (few : Int))] ha Tryd.func50 rfl Tryd.ntmps50 rfl rfl ?_
  refine cod_seq ?_
  refine cod_region ?_
  refine lst_alloc rfl F.ti24 ?_
  intro b4
  refine lst_nil ?_
  refine ex_then ?_
  refine cod_seq ?_
  refine cod_ghost (G := Nat × Nat × Nat × Nat × Nat) (fun g => g.2.1 < 18446744073709551616 ∧ g.2.2.1 < 64 ∧ g.2.2.2.1 < 64 ∧ 1 ≤ g.2.2.2.2 ∧ g.2.2.2.2 ≤ 9) (fun g => [(0, .pointer (some ⟨hb, 0, none⟩)), (1, .int .i64 (few : Int)), (4, .pointer (some ⟨b4, 0, none⟩)), (5, .pointer (some ⟨g.1, 0, none⟩))]) (fun g => .blk hb (hatO nA nums.length nc (tk + 1 + few + few + 1) (g.2.1)) :: .blk g.1 (.cells [.int .i64 ((0 : Nat) : Int), .int .i64 ((0 : Nat) : Int), .int .i64 (g.2.2.1 : Int), .int .i64 (g.2.2.2.1 : Int), .int .i64 (g.2.2.2.2 : Int)].toArray 24 (0, 0)) :: .blk b4 (.cells [.int .i64 0, .int .i64 0, .int .i64 0, .int .i64 0, .int .i64 0].toArray 24 (0, 0)) :: T) ?_ ?_
  · skip
    refine any_begin [.b hb] F.follows 17 rfl [false, false, false, false, false, false, false, false, false, false, false, false, false, false, false, false, false] rfl ?_
    refine any_tk 0 rfl rfl rfl (yld_move rfl) ?_
    refine any_tk 1 rfl rfl rfl (yld_move rfl) ?_
    refine any_tk 2 rfl rfl rfl (yld_int rfl rfl (fun w => bin_sub w (wrap_i64' ((few : Int) - 1) (by omega) (by omega)))) ?_
    refine any_tk 5 rfl rfl rfl (yld_move rfl) ?_
    refine any_tk 6 rfl rfl rfl (yld_move rfl) ?_
    refine any_tk 8 rfl rfl rfl (yld_move rfl) ?_
    refine any_tk 9 rfl rfl rfl (yld_move rfl) ?_
    refine any_tk 12 rfl rfl rfl (yld_move rfl) ?_
    refine any_two 3 15 (by kernel_rfl) rfl rfl rfl rfl ?_ ?_
    · skip
      refine lst_call_pul (X := Nat × Nat) (vs := [_, _]) hb (fun y => hatO nA nums.length nc (tk + 1) (y.1)) (fun y => y.1 < 18446744073709551616 ∧ y.2 ≤ ((few : Int) - 1 : Int).toNat) (fun y => .int .i64 (y.2 : Int)) rfl rfl F.ent25 (fun a w ha => (To_c (C := ⟨Tryd.prog, B, w0, _, _⟩) rfl hB hN (tk := tk) (st := st) (n := (few : Int) - 1) (by omega) hst (by omega) ha).mono (fun e w' h => by obtain ⟨s', x, h1, h2, h3, h4⟩ := h; exact ⟨(s', x), ⟨h1, h2⟩, h3, h4⟩)) ?_
      rintro ⟨s1, t1⟩ ⟨hs1, ht1⟩
      dsimp only at hs1 ht1 ⊢
      have hlt1 : 2 ^ t1 < 64 := pow64 ht1 hf1 hfew
      refine lst_nil ?_
      refine any_next sbl ?_
      refine any_tk 4 rfl rfl rfl (yld_shl rfl rfl (by omega) (shl_i64 (by omega))) ?_
      refine any_two 7 15 (by kernel_rfl) rfl rfl rfl rfl ?_ ?_
      · skip
        refine lst_call_pul (X := Nat × Nat) (vs := [_, _]) hb (fun y => hatO nA nums.length nc (tk + 1 + few) (y.1)) (fun y => y.1 < 18446744073709551616 ∧ y.2 < 2 ^ few) (fun y => .int .i64 (y.2 : Int)) rfl rfl F.ent63 (fun a w ha => (FaultsOf_c (C := ⟨Tryd.prog, B, w0, _, _⟩) rfl hB hN (tk := tk + 1) (st := s1) (few := few) (by omega) hs1 hfew ha).mono (fun e w' h => by obtain ⟨s', x, h1, h2, h3, h4⟩ := h; exact ⟨(s', x), ⟨h1, h2⟩, h3, h4⟩)) ?_
        rintro ⟨s2, f1⟩ ⟨hs2, hf1⟩
        dsimp only at hs2 hf1 ⊢
        have hlf1 : f1 < 64 := few64 hf1 hfew
        refine lst_nil ?_
        refine any_next sbl ?_
        refine any_two 10 15 (by kernel_rfl) rfl rfl rfl rfl ?_ ?_
        · skip
          refine lst_call_pul (X := Nat × Nat) (vs := [_, _]) hb (fun y => hatO nA nums.length nc (tk + 1 + few + few) (y.1)) (fun y => y.1 < 18446744073709551616 ∧ y.2 < 2 ^ few) (fun y => .int .i64 (y.2 : Int)) rfl rfl F.ent63 (fun a w ha => (FaultsOf_c (C := ⟨Tryd.prog, B, w0, _, _⟩) rfl hB hN (tk := tk + 1 + few) (st := s2) (few := few) (by omega) hs2 hfew ha).mono (fun e w' h => by obtain ⟨s', x, h1, h2, h3, h4⟩ := h; exact ⟨(s', x), ⟨h1, h2⟩, h3, h4⟩)) ?_
          rintro ⟨s3, f2⟩ ⟨hs3, hf2⟩
          dsimp only at hs3 hf2 ⊢
          have hlf2 : f2 < 64 := few64 hf2 hfew
          refine lst_nil ?_
          refine any_next sbl ?_
          refine any_tk 11 rfl rfl rfl (yld_int rfl rfl (fun w => bin_and w (i64_and f1 f2 (by omega) (by omega)))) ?_
          refine any_two 13 15 (by kernel_rfl) rfl rfl rfl rfl ?_ ?_
          · skip
            refine lst_call_pul (X := Nat × Nat) (vs := [_, _, _]) hb (fun y => hatO nA nums.length nc (tk + 1 + few + few + 1) (y.1)) (fun y => y.1 < 18446744073709551616 ∧ 1 ≤ y.2 ∧ y.2 ≤ 9) (fun y => .int .i64 (y.2 : Int)) rfl rfl F.ent87 (fun a w ha => (From_c (C := ⟨Tryd.prog, B, w0, _, _⟩) rfl hB hN (tk := tk + 1 + few + few) (st := s3) (lo := 1) (hi := 9) (by omega) hs3 (by omega) (by omega) ha).mono (fun e w' h => by obtain ⟨s', x, h1, h2, h3, h4, h5⟩ := h; exact ⟨(s', x), ⟨h1, h2, h3⟩, h4, h5⟩)) ?_
            rintro ⟨s4, c1⟩ ⟨hs4, hc1a, hc1b⟩
            dsimp only at hs4 hc1a hc1b ⊢
            refine lst_nil ?_
            refine any_next sbl ?_
            refine any_tk 14 rfl rfl rfl (yld_struct (vs := [(2, _), (3, _), (4, _)]) (l' := [_, _, _, _, _]) rfl F.ti24 F.pl24 (.cons rfl rfl (.cons rfl rfl (.cons rfl rfl (.nil _)))) rfl) ?_
            refine any_one 15 (by kernel_rfl) rfl rfl ?_
            refine lst_alloc rfl F.ti24 ?_
            intro b5
            refine lst_nil ?_
            refine any_next sbl ?_
            refine any_one 16 (by kernel_rfl) rfl rfl ?_
            refine lst_store rfl rfl F.ti24 rfl ?_
            refine lst_nil ?_
            refine any_next sbl ?_
            refine any_done rfl (by kernel_rfl) ?_
            exact ex_ghost (b5, s4, 2 ^ t1, f1 &&& f2, c1) ⟨hs4, hlt1, and64 hlf1, hc1a, hc1b⟩ sbn pkk
          · skip
            refine lst_alloc rfl F.ti24 ?_
            intro b5
            refine lst_nil ?_
            refine any_next sbl ?_
            refine any_one 13 (by kernel_rfl) rfl rfl ?_
            refine lst_call_pul (X := Nat × Nat) (vs := [_, _, _]) hb (fun y => hatO nA nums.length nc (tk + 1 + few + few + 1) (y.1)) (fun y => y.1 < 18446744073709551616 ∧ 1 ≤ y.2 ∧ y.2 ≤ 9) (fun y => .int .i64 (y.2 : Int)) rfl rfl F.ent87 (fun a w ha => (From_c (C := ⟨Tryd.prog, B, w0, _, _⟩) rfl hB hN (tk := tk + 1 + few + few) (st := s3) (lo := 1) (hi := 9) (by omega) hs3 (by omega) (by omega) ha).mono (fun e w' h => by obtain ⟨s', x, h1, h2, h3, h4, h5⟩ := h; exact ⟨(s', x), ⟨h1, h2, h3⟩, h4, h5⟩)) ?_
            rintro ⟨s4, c1⟩ ⟨hs4, hc1a, hc1b⟩
            dsimp only at hs4 hc1a hc1b ⊢
            refine lst_nil ?_
            refine any_next sbl ?_
            refine any_tk 14 rfl rfl rfl (yld_struct (vs := [(2, _), (3, _), (4, _)]) (l' := [_, _, _, _, _]) rfl F.ti24 F.pl24 (.cons rfl rfl (.cons rfl rfl (.cons rfl rfl (.nil _)))) rfl) ?_
            refine any_one 16 (by kernel_rfl) rfl rfl ?_
            refine lst_store rfl rfl F.ti24 rfl ?_
            refine lst_nil ?_
            refine any_next sbl ?_
            refine any_done rfl (by kernel_rfl) ?_
            exact ex_ghost (b5, s4, 2 ^ t1, f1 &&& f2, c1) ⟨hs4, hlt1, and64 hlf1, hc1a, hc1b⟩ sbn pkk
        · skip
          refine lst_alloc rfl F.ti24 ?_
          intro b5
          refine lst_nil ?_
          refine any_next sbl ?_
          refine any_one 10 (by kernel_rfl) rfl rfl ?_
          refine lst_call_pul (X := Nat × Nat) (vs := [_, _]) hb (fun y => hatO nA nums.length nc (tk + 1 + few + few) (y.1)) (fun y => y.1 < 18446744073709551616 ∧ y.2 < 2 ^ few) (fun y => .int .i64 (y.2 : Int)) rfl rfl F.ent63 (fun a w ha => (FaultsOf_c (C := ⟨Tryd.prog, B, w0, _, _⟩) rfl hB hN (tk := tk + 1 + few) (st := s2) (few := few) (by omega) hs2 hfew ha).mono (fun e w' h => by obtain ⟨s', x, h1, h2, h3, h4⟩ := h; exact ⟨(s', x), ⟨h1, h2⟩, h3, h4⟩)) ?_
          rintro ⟨s3, f2⟩ ⟨hs3, hf2⟩
          dsimp only at hs3 hf2 ⊢
          have hlf2 : f2 < 64 := few64 hf2 hfew
          refine lst_nil ?_
          refine any_next sbl ?_
          refine any_tk 11 rfl rfl rfl (yld_int rfl rfl (fun w => bin_and w (i64_and f1 f2 (by omega) (by omega)))) ?_
          refine any_one 13 (by kernel_rfl) rfl rfl ?_
          refine lst_call_pul (X := Nat × Nat) (vs := [_, _, _]) hb (fun y => hatO nA nums.length nc (tk + 1 + few + few + 1) (y.1)) (fun y => y.1 < 18446744073709551616 ∧ 1 ≤ y.2 ∧ y.2 ≤ 9) (fun y => .int .i64 (y.2 : Int)) rfl rfl F.ent87 (fun a w ha => (From_c (C := ⟨Tryd.prog, B, w0, _, _⟩) rfl hB hN (tk := tk + 1 + few + few) (st := s3) (lo := 1) (hi := 9) (by omega) hs3 (by omega) (by omega) ha).mono (fun e w' h => by obtain ⟨s', x, h1, h2, h3, h4, h5⟩ := h; exact ⟨(s', x), ⟨h1, h2, h3⟩, h4, h5⟩)) ?_
          rintro ⟨s4, c1⟩ ⟨hs4, hc1a, hc1b⟩
          dsimp only at hs4 hc1a hc1b ⊢
          refine lst_nil ?_
          refine any_next sbl ?_
          refine any_tk 14 rfl rfl rfl (yld_struct (vs := [(2, _), (3, _), (4, _)]) (l' := [_, _, _, _, _]) rfl F.ti24 F.pl24 (.cons rfl rfl (.cons rfl rfl (.cons rfl rfl (.nil _)))) rfl) ?_
          refine any_one 16 (by kernel_rfl) rfl rfl ?_
          refine lst_store rfl rfl F.ti24 rfl ?_
          refine lst_nil ?_
          refine any_next sbl ?_
          refine any_done rfl (by kernel_rfl) ?_
          exact ex_ghost (b5, s4, 2 ^ t1, f1 &&& f2, c1) ⟨hs4, hlt1, and64 hlf1, hc1a, hc1b⟩ sbn pkk
      · skip
        refine lst_alloc rfl F.ti24 ?_
        intro b5
        refine lst_nil ?_
        refine any_next sbl ?_
        refine any_one 7 (by kernel_rfl) rfl rfl ?_
        refine lst_call_pul (X := Nat × Nat) (vs := [_, _]) hb (fun y => hatO nA nums.length nc (tk + 1 + few) (y.1)) (fun y => y.1 < 18446744073709551616 ∧ y.2 < 2 ^ few) (fun y => .int .i64 (y.2 : Int)) rfl rfl F.ent63 (fun a w ha => (FaultsOf_c (C := ⟨Tryd.prog, B, w0, _, _⟩) rfl hB hN (tk := tk + 1) (st := s1) (few := few) (by omega) hs1 hfew ha).mono (fun e w' h => by obtain ⟨s', x, h1, h2, h3, h4⟩ := h; exact ⟨(s', x), ⟨h1, h2⟩, h3, h4⟩)) ?_
        rintro ⟨s2, f1⟩ ⟨hs2, hf1⟩
        dsimp only at hs2 hf1 ⊢
        have hlf1 : f1 < 64 := few64 hf1 hfew
        refine lst_nil ?_
        refine any_next sbl ?_
        refine any_one 10 (by kernel_rfl) rfl rfl ?_
        refine lst_call_pul (X := Nat × Nat) (vs := [_, _]) hb (fun y => hatO nA nums.length nc (tk + 1 + few + few) (y.1)) (fun y => y.1 < 18446744073709551616 ∧ y.2 < 2 ^ few) (fun y => .int .i64 (y.2 : Int)) rfl rfl F.ent63 (fun a w ha => (FaultsOf_c (C := ⟨Tryd.prog, B, w0, _, _⟩) rfl hB hN (tk := tk + 1 + few) (st := s2) (few := few) (by omega) hs2 hfew ha).mono (fun e w' h => by obtain ⟨s', x, h1, h2, h3, h4⟩ := h; exact ⟨(s', x), ⟨h1, h2⟩, h3, h4⟩)) ?_
        rintro ⟨s3, f2⟩ ⟨hs3, hf2⟩
        dsimp only at hs3 hf2 ⊢
        have hlf2 : f2 < 64 := few64 hf2 hfew
        refine lst_nil ?_
        refine any_next sbl ?_
        refine any_tk 11 rfl rfl rfl (yld_int rfl rfl (fun w => bin_and w (i64_and f1 f2 (by omega) (by omega)))) ?_
        refine any_one 13 (by kernel_rfl) rfl rfl ?_
        refine lst_call_pul (X := Nat × Nat) (vs := [_, _, _]) hb (fun y => hatO nA nums.length nc (tk + 1 + few + few + 1) (y.1)) (fun y => y.1 < 18446744073709551616 ∧ 1 ≤ y.2 ∧ y.2 ≤ 9) (fun y => .int .i64 (y.2 : Int)) rfl rfl F.ent87 (fun a w ha => (From_c (C := ⟨Tryd.prog, B, w0, _, _⟩) rfl hB hN (tk := tk + 1 + few + few) (st := s3) (lo := 1) (hi := 9) (by omega) hs3 (by omega) (by omega) ha).mono (fun e w' h => by obtain ⟨s', x, h1, h2, h3, h4, h5⟩ := h; exact ⟨(s', x), ⟨h1, h2, h3⟩, h4, h5⟩)) ?_
        rintro ⟨s4, c1⟩ ⟨hs4, hc1a, hc1b⟩
        dsimp only at hs4 hc1a hc1b ⊢
        refine lst_nil ?_
        refine any_next sbl ?_
        refine any_tk 14 rfl rfl rfl (yld_struct (vs := [(2, _), (3, _), (4, _)]) (l' := [_, _, _, _, _]) rfl F.ti24 F.pl24 (.cons rfl rfl (.cons rfl rfl (.cons rfl rfl (.nil _)))) rfl) ?_
        refine any_one 16 (by kernel_rfl) rfl rfl ?_
        refine lst_store rfl rfl F.ti24 rfl ?_
        refine lst_nil ?_
        refine any_next sbl ?_
        refine any_done rfl (by kernel_rfl) ?_
        exact ex_ghost (b5, s4, 2 ^ t1, f1 &&& f2, c1) ⟨hs4, hlt1, and64 hlf1, hc1a, hc1b⟩ sbn pkk
    · skip
      refine lst_alloc rfl F.ti24 ?_
      intro b5
      refine lst_nil ?_
      refine any_next sbl ?_
      refine any_one 3 (by kernel_rfl) rfl rfl ?_
      refine lst_call_pul (X := Nat × Nat) (vs := [_, _]) hb (fun y => hatO nA nums.length nc (tk + 1) (y.1)) (fun y => y.1 < 18446744073709551616 ∧ y.2 ≤ ((few : Int) - 1 : Int).toNat) (fun y => .int .i64 (y.2 : Int)) rfl rfl F.ent25 (fun a w ha => (To_c (C := ⟨Tryd.prog, B, w0, _, _⟩) rfl hB hN (tk := tk) (st := st) (n := (few : Int) - 1) (by omega) hst (by omega) ha).mono (fun e w' h => by obtain ⟨s', x, h1, h2, h3, h4⟩ := h; exact ⟨(s', x), ⟨h1, h2⟩, h3, h4⟩)) ?_
      rintro ⟨s1, t1⟩ ⟨hs1, ht1⟩
      dsimp only at hs1 ht1 ⊢
      have hlt1 : 2 ^ t1 < 64 := pow64 ht1 hf1 hfew
      refine lst_nil ?_
      refine any_next sbl ?_
      refine any_tk 4 rfl rfl rfl (yld_shl rfl rfl (by omega) (shl_i64 (by omega))) ?_
      refine any_one 7 (by kernel_rfl) rfl rfl ?_
      refine lst_call_pul (X := Nat × Nat) (vs := [_, _]) hb (fun y => hatO nA nums.length nc (tk + 1 + few) (y.1)) (fun y => y.1 < 18446744073709551616 ∧ y.2 < 2 ^ few) (fun y => .int .i64 (y.2 : Int)) rfl rfl F.ent63 (fun a w ha => (FaultsOf_c (C := ⟨Tryd.prog, B, w0, _, _⟩) rfl hB hN (tk := tk + 1) (st := s1) (few := few) (by omega) hs1 hfew ha).mono (fun e w' h => by obtain ⟨s', x, h1, h2, h3, h4⟩ := h; exact ⟨(s', x), ⟨h1, h2⟩, h3, h4⟩)) ?_
      rintro ⟨s2, f1⟩ ⟨hs2, hf1⟩
      dsimp only at hs2 hf1 ⊢
      have hlf1 : f1 < 64 := few64 hf1 hfew
      refine lst_nil ?_
      refine any_next sbl ?_
      refine any_one 10 (by kernel_rfl) rfl rfl ?_
      refine lst_call_pul (X := Nat × Nat) (vs := [_, _]) hb (fun y => hatO nA nums.length nc (tk + 1 + few + few) (y.1)) (fun y => y.1 < 18446744073709551616 ∧ y.2 < 2 ^ few) (fun y => .int .i64 (y.2 : Int)) rfl rfl F.ent63 (fun a w ha => (FaultsOf_c (C := ⟨Tryd.prog, B, w0, _, _⟩) rfl hB hN (tk := tk + 1 + few) (st := s2) (few := few) (by omega) hs2 hfew ha).mono (fun e w' h => by obtain ⟨s', x, h1, h2, h3, h4⟩ := h; exact ⟨(s', x), ⟨h1, h2⟩, h3, h4⟩)) ?_
      rintro ⟨s3, f2⟩ ⟨hs3, hf2⟩
      dsimp only at hs3 hf2 ⊢
      have hlf2 : f2 < 64 := few64 hf2 hfew
      refine lst_nil ?_
      refine any_next sbl ?_
      refine any_tk 11 rfl rfl rfl (yld_int rfl rfl (fun w => bin_and w (i64_and f1 f2 (by omega) (by omega)))) ?_
      refine any_one 13 (by kernel_rfl) rfl rfl ?_
      refine lst_call_pul (X := Nat × Nat) (vs := [_, _, _]) hb (fun y => hatO nA nums.length nc (tk + 1 + few + few + 1) (y.1)) (fun y => y.1 < 18446744073709551616 ∧ 1 ≤ y.2 ∧ y.2 ≤ 9) (fun y => .int .i64 (y.2 : Int)) rfl rfl F.ent87 (fun a w ha => (From_c (C := ⟨Tryd.prog, B, w0, _, _⟩) rfl hB hN (tk := tk + 1 + few + few) (st := s3) (lo := 1) (hi := 9) (by omega) hs3 (by omega) (by omega) ha).mono (fun e w' h => by obtain ⟨s', x, h1, h2, h3, h4, h5⟩ := h; exact ⟨(s', x), ⟨h1, h2, h3⟩, h4, h5⟩)) ?_
      rintro ⟨s4, c1⟩ ⟨hs4, hc1a, hc1b⟩
      dsimp only at hs4 hc1a hc1b ⊢
      refine lst_nil ?_
      refine any_next sbl ?_
      refine any_tk 14 rfl rfl rfl (yld_struct (vs := [(2, _), (3, _), (4, _)]) (l' := [_, _, _, _, _]) rfl F.ti24 F.pl24 (.cons rfl rfl (.cons rfl rfl (.cons rfl rfl (.nil _)))) rfl) ?_
      refine any_one 16 (by kernel_rfl) rfl rfl ?_
      refine lst_store rfl rfl F.ti24 rfl ?_
      refine lst_nil ?_
      refine any_next sbl ?_
      refine any_done rfl (by kernel_rfl) ?_
      exact ex_ghost (b5, s4, 2 ^ t1, f1 &&& f2, c1) ⟨hs4, hlt1, and64 hlf1, hc1a, hc1b⟩ sbn pkk
  · skip
    rintro ⟨b5, s4, k0, l0, c0⟩ ⟨hs4, hk0, hl0, hc0a, hc0b⟩
    dsimp only at hs4 hk0 hl0 hc0a hc0b ⊢
    refine ex_then ?_
    refine cod_seq ?_
    refine cod_ghost (G := Nat × Nat) (fun g => g.1 < 18446744073709551616 ∧ g.2 < 64) (fun g => [(0, .pointer (some ⟨hb, 0, none⟩)), (1, .int .i64 (few : Int)), (4, .pointer (some ⟨b4, 0, none⟩)), (5, .pointer (some ⟨b5, 0, none⟩))]) (fun g => .blk hb (hatO nA nums.length nc (tk + 1 + few + few + 1 + few + few) (g.1)) :: .blk b5 (.cells [.int .i64 ((0 : Nat) : Int), .int .i64 ((0 : Nat) : Int), .int .i64 (g.2 : Int), .int .i64 (l0 : Int), .int .i64 (c0 : Int)].toArray 24 (0, 0)) :: .blk b4 (.cells [.int .i64 0, .int .i64 0, .int .i64 0, .int .i64 0, .int .i64 0].toArray 24 (0, 0)) :: T) ?_ ?_
    · skip
      refine any_begin [.b b5, .b hb] F.follows 12 rfl [false, false, false, false, false, false, false, false, false, false, false, false] rfl ?_
      refine any_tk 0 rfl rfl rfl (yld_field_z rfl F.fi24_2 F.ti3) ?_
      refine any_tk 2 rfl rfl rfl (yld_move rfl) ?_
      refine any_tk 3 rfl rfl rfl (yld_move rfl) ?_
      refine any_tk 5 rfl rfl rfl (yld_move rfl) ?_
      refine any_tk 6 rfl rfl rfl (yld_move rfl) ?_
      refine any_two 1 4 (by kernel_rfl) rfl rfl rfl rfl ?_ ?_
      · skip
        refine lst_load rfl rfl F.one3 ?_
        refine lst_nil ?_
        refine any_next sbl ?_
        refine any_one 4 (by kernel_rfl) rfl rfl ?_
        refine lst_call_pul (X := Nat × Nat) (vs := [_, _]) hb (fun y => hatO nA nums.length nc (tk + 1 + few + few + 1 + few) (y.1)) (fun y => y.1 < 18446744073709551616 ∧ y.2 < 2 ^ few) (fun y => .int .i64 (y.2 : Int)) rfl rfl F.ent63 (fun a w ha => (FaultsOf_c (C := ⟨Tryd.prog, B, w0, _, _⟩) rfl hB hN (tk := tk + 1 + few + few + 1) (st := s4) (few := few) (by omega) hs4 hfew ha).mono (fun e w' h => by obtain ⟨s', x, h1, h2, h3, h4⟩ := h; exact ⟨(s', x), ⟨h1, h2⟩, h3, h4⟩)) ?_
        rintro ⟨s5, f3⟩ ⟨hs5, hf3⟩
        dsimp only at hs5 hf3 ⊢
        have hlf3 : f3 < 64 := few64 hf3 hfew
        refine lst_nil ?_
        refine any_next sbl ?_
        refine any_one 7 (by kernel_rfl) rfl rfl ?_
        refine lst_call_pul (X := Nat × Nat) (vs := [_, _]) hb (fun y => hatO nA nums.length nc (tk + 1 + few + few + 1 + few + few) (y.1)) (fun y => y.1 < 18446744073709551616 ∧ y.2 < 2 ^ few) (fun y => .int .i64 (y.2 : Int)) rfl rfl F.ent63 (fun a w ha => (FaultsOf_c (C := ⟨Tryd.prog, B, w0, _, _⟩) rfl hB hN (tk := tk + 1 + few + few + 1 + few) (st := s5) (few := few) (by omega) hs5 hfew ha).mono (fun e w' h => by obtain ⟨s', x, h1, h2, h3, h4⟩ := h; exact ⟨(s', x), ⟨h1, h2⟩, h3, h4⟩)) ?_
        rintro ⟨s6, f4⟩ ⟨hs6, hf4⟩
        dsimp only at hs6 hf4 ⊢
        have hlf4 : f4 < 64 := few64 hf4 hfew
        refine lst_nil ?_
        refine any_next sbl ?_
        refine any_tk 8 rfl rfl rfl (yld_int rfl rfl (fun w => bin_and w (i64_and f3 f4 (by omega) (by omega)))) ?_
        have hl34 : f3 &&& f4 < 64 := and64 hlf3
        refine any_tk 9 rfl rfl rfl (yld_int rfl rfl (fun w => bin_or w (i64_or k0 (f3 &&& f4) (by omega) (by omega)))) ?_
        refine any_tk 10 rfl rfl rfl (yld_field_z rfl F.fi24_2 F.ti3) ?_
        refine any_one 11 (by kernel_rfl) rfl rfl ?_
        refine lst_store rfl rfl F.ti3 rfl ?_
        refine lst_nil ?_
        refine any_next sbl ?_
        refine any_done rfl (by kernel_rfl) ?_
        exact ex_ghost (s6, k0 ||| f3 &&& f4) ⟨hs6, or64 hk0 hl34⟩ sbn pkk
      · skip
        refine lst_call_pul (X := Nat × Nat) (vs := [_, _]) hb (fun y => hatO nA nums.length nc (tk + 1 + few + few + 1 + few) (y.1)) (fun y => y.1 < 18446744073709551616 ∧ y.2 < 2 ^ few) (fun y => .int .i64 (y.2 : Int)) rfl rfl F.ent63 (fun a w ha => (FaultsOf_c (C := ⟨Tryd.prog, B, w0, _, _⟩) rfl hB hN (tk := tk + 1 + few + few + 1) (st := s4) (few := few) (by omega) hs4 hfew ha).mono (fun e w' h => by obtain ⟨s', x, h1, h2, h3, h4⟩ := h; exact ⟨(s', x), ⟨h1, h2⟩, h3, h4⟩)) ?_
        rintro ⟨s5, f3⟩ ⟨hs5, hf3⟩
        dsimp only at hs5 hf3 ⊢
        have hlf3 : f3 < 64 := few64 hf3 hfew
        refine lst_nil ?_
        refine any_next sbl ?_
        refine any_two 1 7 (by kernel_rfl) rfl rfl rfl rfl ?_ ?_
        · skip
          refine lst_load rfl rfl F.one3 ?_
          refine lst_nil ?_
          refine any_next sbl ?_
          refine any_one 7 (by kernel_rfl) rfl rfl ?_
          refine lst_call_pul (X := Nat × Nat) (vs := [_, _]) hb (fun y => hatO nA nums.length nc (tk + 1 + few + few + 1 + few + few) (y.1)) (fun y => y.1 < 18446744073709551616 ∧ y.2 < 2 ^ few) (fun y => .int .i64 (y.2 : Int)) rfl rfl F.ent63 (fun a w ha => (FaultsOf_c (C := ⟨Tryd.prog, B, w0, _, _⟩) rfl hB hN (tk := tk + 1 + few + few + 1 + few) (st := s5) (few := few) (by omega) hs5 hfew ha).mono (fun e w' h => by obtain ⟨s', x, h1, h2, h3, h4⟩ := h; exact ⟨(s', x), ⟨h1, h2⟩, h3, h4⟩)) ?_
          rintro ⟨s6, f4⟩ ⟨hs6, hf4⟩
          dsimp only at hs6 hf4 ⊢
          have hlf4 : f4 < 64 := few64 hf4 hfew
          refine lst_nil ?_
          refine any_next sbl ?_
          refine any_tk 8 rfl rfl rfl (yld_int rfl rfl (fun w => bin_and w (i64_and f3 f4 (by omega) (by omega)))) ?_
          have hl34 : f3 &&& f4 < 64 := and64 hlf3
          refine any_tk 9 rfl rfl rfl (yld_int rfl rfl (fun w => bin_or w (i64_or k0 (f3 &&& f4) (by omega) (by omega)))) ?_
          refine any_tk 10 rfl rfl rfl (yld_field_z rfl F.fi24_2 F.ti3) ?_
          refine any_one 11 (by kernel_rfl) rfl rfl ?_
          refine lst_store rfl rfl F.ti3 rfl ?_
          refine lst_nil ?_
          refine any_next sbl ?_
          refine any_done rfl (by kernel_rfl) ?_
          exact ex_ghost (s6, k0 ||| f3 &&& f4) ⟨hs6, or64 hk0 hl34⟩ sbn pkk
        · skip
          refine lst_call_pul (X := Nat × Nat) (vs := [_, _]) hb (fun y => hatO nA nums.length nc (tk + 1 + few + few + 1 + few + few) (y.1)) (fun y => y.1 < 18446744073709551616 ∧ y.2 < 2 ^ few) (fun y => .int .i64 (y.2 : Int)) rfl rfl F.ent63 (fun a w ha => (FaultsOf_c (C := ⟨Tryd.prog, B, w0, _, _⟩) rfl hB hN (tk := tk + 1 + few + few + 1 + few) (st := s5) (few := few) (by omega) hs5 hfew ha).mono (fun e w' h => by obtain ⟨s', x, h1, h2, h3, h4⟩ := h; exact ⟨(s', x), ⟨h1, h2⟩, h3, h4⟩)) ?_
          rintro ⟨s6, f4⟩ ⟨hs6, hf4⟩
          dsimp only at hs6 hf4 ⊢
          have hlf4 : f4 < 64 := few64 hf4 hfew
          refine lst_nil ?_
          refine any_next sbl ?_
          refine any_tk 8 rfl rfl rfl (yld_int rfl rfl (fun w => bin_and w (i64_and f3 f4 (by omega) (by omega)))) ?_
          refine any_one 1 (by kernel_rfl) rfl rfl ?_
          refine lst_load rfl rfl F.one3 ?_
          refine lst_nil ?_
          refine any_next sbl ?_
          have hl34 : f3 &&& f4 < 64 := and64 hlf3
          refine any_tk 9 rfl rfl rfl (yld_int rfl rfl (fun w => bin_or w (i64_or k0 (f3 &&& f4) (by omega) (by omega)))) ?_
          refine any_tk 10 rfl rfl rfl (yld_field_z rfl F.fi24_2 F.ti3) ?_
          refine any_one 11 (by kernel_rfl) rfl rfl ?_
          refine lst_store rfl rfl F.ti3 rfl ?_
          refine lst_nil ?_
          refine any_next sbl ?_
          refine any_done rfl (by kernel_rfl) ?_
          exact ex_ghost (s6, k0 ||| f3 &&& f4) ⟨hs6, or64 hk0 hl34⟩ sbn pkk
    · skip
      rintro ⟨s6, k1⟩ ⟨hs6, hk1⟩
      dsimp only at hs6 hk1 ⊢
      refine ex_then ?_
      refine cod_seq ?_
      refine cod_seq ?_
      refine cod_region ?_
      refine lst_move rfl rfl ?_
      refine lst_call_pul (X := Nat × Bool) (vs := [_, _]) hb (fun y => hatO nA nums.length nc (tk + 1 + few + few + 1 + few + few + 1) (y.1)) (fun y => y.1 < 18446744073709551616) (fun y => .bool y.2) rfl rfl F.ent93 (fun a w ha => (Seldom_c (C := ⟨Tryd.prog, B, w0, _, _⟩) rfl hB hN (tk := tk + 1 + few + few + 1 + few + few) (st := s6) (n := 3) (by omega) hs6 (by omega) (by omega) ha).mono (fun e w' h => by obtain ⟨s', b, h1, h2, h3⟩ := h; exact ⟨(s', b), h1, h2, h3⟩)) ?_
      rintro ⟨s7, bl1⟩ hs7
      dsimp only at hs7 ⊢
      refine lst_not rfl rfl ?_
      refine lst_nil ?_
      refine ex_then ?_
      refine cod_cond_bool rfl (fun hc0 => ?_) (fun hc0 => ?_)
      · skip
        refine cod_region ?_
        refine lst_move rfl rfl ?_
        refine lst_move rfl rfl ?_
        refine lst_int rfl rfl rfl (fun w => bin_sub w (wrap_i64' ((few : Int) - 1) (by omega) (by omega))) ?_
        refine lst_call_pul (X := Nat × Nat) (vs := [_, _]) hb (fun y => hatO nA nums.length nc (tk + 1 + few + few + 1 + few + few + 1 + 1) (y.1)) (fun y => y.1 < 18446744073709551616 ∧ y.2 ≤ ((few : Int) - 1 : Int).toNat) (fun y => .int .i64 (y.2 : Int)) rfl rfl F.ent25 (fun a w ha => (To_c (C := ⟨Tryd.prog, B, w0, _, _⟩) rfl hB hN (tk := tk + 1 + few + few + 1 + few + few + 1) (st := s7) (n := (few : Int) - 1) (by omega) hs7 (by omega) ha).mono (fun e w' h => by obtain ⟨s', x, h1, h2, h3, h4⟩ := h; exact ⟨(s', x), ⟨h1, h2⟩, h3, h4⟩)) ?_
        rintro ⟨s8, t2⟩ ⟨hs8, ht2⟩
        dsimp only at hs8 ht2 ⊢
        have hlt2 : 2 ^ t2 < 64 := pow64 ht2 hf1 hfew
        refine lst_shl rfl rfl rfl (by omega) (shl_i64 (by omega)) ?_
        refine lst_field_z rfl rfl F.fi24_0 F.ti3 ?_
        refine lst_store rfl rfl F.ti3 rfl ?_
        refine lst_nil ?_
        refine ex_then ?_
        refine cod_seq ?_
        refine cod_seq ?_
        refine cod_region ?_
        refine lst_move rfl rfl ?_
        refine lst_call_pul (X := Nat × Bool) (vs := [_, _]) hb (fun y => hatO nA nums.length nc (tk + 1 + few + few + 1 + few + few + 1 + 1 + 1) (y.1)) (fun y => y.1 < 18446744073709551616) (fun y => .bool y.2) rfl rfl F.ent93 (fun a w ha => (Seldom_c (C := ⟨Tryd.prog, B, w0, _, _⟩) rfl hB hN (tk := tk + 1 + few + few + 1 + few + few + 1 + 1) (st := s8) (n := 3) (by omega) hs8 (by omega) (by omega) ha).mono (fun e w' h => by obtain ⟨s', b, h1, h2, h3⟩ := h; exact ⟨(s', b), h1, h2, h3⟩)) ?_
        rintro ⟨s9, bl2⟩ hs9
        dsimp only at hs9 ⊢
        refine lst_nil ?_
        refine ex_then ?_
        refine cod_cond_bool rfl (fun hc1 => ?_) (fun hc1 => ?_)
        · skip
          refine cod_ghost (G := Nat × Nat) (fun g => g.1 < 18446744073709551616 ∧ g.2 < 64 ∧ (2 ^ t2) &&& g.2 = 0) (fun g => [(0, .pointer (some ⟨hb, 0, none⟩)), (1, .int .i64 (few : Int)), (4, .pointer (some ⟨b4, 0, none⟩)), (5, .pointer (some ⟨b5, 0, none⟩))]) (fun g => .blk hb (hatO nA nums.length nc (tk + 1 + few + few + 1 + few + few + 1 + 1 + 1 + 1) (g.1)) :: .blk b5 (.cells [.int .i64 ((2 ^ t2 : Nat) : Int), .int .i64 (g.2 : Int), .int .i64 (k1 : Int), .int .i64 (l0 : Int), .int .i64 (c0 : Int)].toArray 24 (0, 0)) :: .blk b4 (.cells [.int .i64 0, .int .i64 0, .int .i64 0, .int .i64 0, .int .i64 0].toArray 24 (0, 0)) :: T) ?_ ?_
          · skip
            refine any_begin [.b b5, .b hb] F.follows 10 rfl [false, false, false, false, false, false, false, false, false, false] rfl ?_
            refine any_tk 0 rfl rfl rfl (yld_move rfl) ?_
            refine any_tk 1 rfl rfl rfl (yld_move rfl) ?_
            refine any_tk 2 rfl rfl rfl (yld_int rfl rfl (fun w => bin_sub w (wrap_i64' ((few : Int) - 1) (by omega) (by omega)))) ?_
            refine any_tk 5 rfl rfl rfl (yld_field_z rfl F.fi24_0 F.ti3) ?_
            refine any_two 3 6 (by kernel_rfl) rfl rfl rfl rfl ?_ ?_
            · skip
              refine lst_call_pul (X := Nat × Nat) (vs := [_, _]) hb (fun y => hatO nA nums.length nc (tk + 1 + few + few + 1 + few + few + 1 + 1 + 1 + 1) (y.1)) (fun y => y.1 < 18446744073709551616 ∧ y.2 ≤ ((few : Int) - 1 : Int).toNat) (fun y => .int .i64 (y.2 : Int)) rfl rfl F.ent25 (fun a w ha => (To_c (C := ⟨Tryd.prog, B, w0, _, _⟩) rfl hB hN (tk := tk + 1 + few + few + 1 + few + few + 1 + 1 + 1) (st := s9) (n := (few : Int) - 1) (by omega) hs9 (by omega) ha).mono (fun e w' h => by obtain ⟨s', x, h1, h2, h3, h4⟩ := h; exact ⟨(s', x), ⟨h1, h2⟩, h3, h4⟩)) ?_
              rintro ⟨s10, t3⟩ ⟨hs10, ht3⟩
              dsimp only at hs10 ht3 ⊢
              have hlt3 : 2 ^ t3 < 64 := pow64 ht3 hf1 hfew
              refine lst_nil ?_
              refine any_next sbl ?_
              refine any_tk 4 rfl rfl rfl (yld_shl rfl rfl (by omega) (shl_i64 (by omega))) ?_
              refine any_one 6 (by kernel_rfl) rfl rfl ?_
              refine lst_load rfl rfl F.one3 ?_
              refine lst_nil ?_
              refine any_next sbl ?_
              refine any_tk 7 rfl rfl rfl (yld_int rfl rfl (fun w => bin_andNot w (i64_andNot (2 ^ t3) (2 ^ t2) (by omega) (by omega)))) ?_
              refine any_tk 8 rfl rfl rfl (yld_field_z rfl F.fi24_1 F.ti3) ?_
              refine any_one 9 (by kernel_rfl) rfl rfl ?_
              refine lst_store rfl rfl F.ti3 rfl ?_
              refine lst_nil ?_
              refine any_next sbl ?_
              refine any_done rfl (by kernel_rfl) ?_
              exact ex_ghost (s10, nn (2 ^ t3) (2 ^ t2)) ⟨hs10, nn64 hlt3, nn_apart _ _⟩ sbn pkk
            · skip
              refine lst_load rfl rfl F.one3 ?_
              refine lst_nil ?_
              refine any_next sbl ?_
              refine any_one 3 (by kernel_rfl) rfl rfl ?_
              refine lst_call_pul (X := Nat × Nat) (vs := [_, _]) hb (fun y => hatO nA nums.length nc (tk + 1 + few + few + 1 + few + few + 1 + 1 + 1 + 1) (y.1)) (fun y => y.1 < 18446744073709551616 ∧ y.2 ≤ ((few : Int) - 1 : Int).toNat) (fun y => .int .i64 (y.2 : Int)) rfl rfl F.ent25 (fun a w ha => (To_c (C := ⟨Tryd.prog, B, w0, _, _⟩) rfl hB hN (tk := tk + 1 + few + few + 1 + few + few + 1 + 1 + 1) (st := s9) (n := (few : Int) - 1) (by omega) hs9 (by omega) ha).mono (fun e w' h => by obtain ⟨s', x, h1, h2, h3, h4⟩ := h; exact ⟨(s', x), ⟨h1, h2⟩, h3, h4⟩)) ?_
              rintro ⟨s10, t3⟩ ⟨hs10, ht3⟩
              dsimp only at hs10 ht3 ⊢
              have hlt3 : 2 ^ t3 < 64 := pow64 ht3 hf1 hfew
              refine lst_nil ?_
              refine any_next sbl ?_
              refine any_tk 4 rfl rfl rfl (yld_shl rfl rfl (by omega) (shl_i64 (by omega))) ?_
              refine any_tk 7 rfl rfl rfl (yld_int rfl rfl (fun w => bin_andNot w (i64_andNot (2 ^ t3) (2 ^ t2) (by omega) (by omega)))) ?_
              refine any_tk 8 rfl rfl rfl (yld_field_z rfl F.fi24_1 F.ti3) ?_
              refine any_one 9 (by kernel_rfl) rfl rfl ?_
              refine lst_store rfl rfl F.ti3 rfl ?_
              refine lst_nil ?_
              refine any_next sbl ?_
              refine any_done rfl (by kernel_rfl) ?_
              exact ex_ghost (s10, nn (2 ^ t3) (2 ^ t2)) ⟨hs10, nn64 hlt3, nn_apart _ _⟩ sbn pkk
          · skip
            rintro ⟨s10, q1⟩ ⟨hs10, hq1, hq2⟩
            dsimp only at hs10 hq1 hq2 ⊢
            refine ex_then ?_
            refine cod_seq ?_
            refine cod_region ?_
            refine lst_loadN rfl rfl F.agg24 F.ti24 ?_
            refine lst_store rfl rfl F.ti24 rfl ?_
            refine lst_nil ?_
            refine ex_then ?_
            refine cod_ret ?_
            exact ex_ret rfl (fun a w ha => by exact res_cellN (ha := ha) rfl rfl F.agg24 F.ti24 rfl) (fun _ _ ha' => ⟨tk + 1 + few + few + 1 + few + few + 1 + 1 + 1 + 1, s10, ⟨2 ^ t2, q1, k1, l0, c0⟩, by omega, hs10, ⟨hlt2, hq1, hk1, hl0, hq2, ⟨hc0a, hc0b⟩⟩, rfl, ha.back (ha'.pck pkk)⟩)
        · skip
          refine cod_skip ?_
          refine ex_then ?_
          refine cod_seq ?_
          refine cod_region ?_
          refine lst_loadN rfl rfl F.agg24 F.ti24 ?_
          refine lst_store rfl rfl F.ti24 rfl ?_
          refine lst_nil ?_
          refine ex_then ?_
          refine cod_ret ?_
          exact ex_ret rfl (fun a w ha => by exact res_cellN (ha := ha) rfl rfl F.agg24 F.ti24 rfl) (fun _ _ ha' => ⟨tk + 1 + few + few + 1 + few + few + 1 + 1 + 1, s9, ⟨2 ^ t2, 0, k1, l0, c0⟩, by omega, hs9, ⟨hlt2, (show (0 : Nat) < 64 by omega), hk1, hl0, Nat.and_zero _, ⟨hc0a, hc0b⟩⟩, rfl, ha.back (ha'.pck pkk)⟩)
      · skip
        refine cod_skip ?_
        refine ex_then ?_
        refine cod_seq ?_
        refine cod_seq ?_
        refine cod_region ?_
        refine lst_move rfl rfl ?_
        refine lst_call_pul (X := Nat × Bool) (vs := [_, _]) hb (fun y => hatO nA nums.length nc (tk + 1 + few + few + 1 + few + few + 1 + 1) (y.1)) (fun y => y.1 < 18446744073709551616) (fun y => .bool y.2) rfl rfl F.ent93 (fun a w ha => (Seldom_c (C := ⟨Tryd.prog, B, w0, _, _⟩) rfl hB hN (tk := tk + 1 + few + few + 1 + few + few + 1) (st := s7) (n := 3) (by omega) hs7 (by omega) (by omega) ha).mono (fun e w' h => by obtain ⟨s', b, h1, h2, h3⟩ := h; exact ⟨(s', b), h1, h2, h3⟩)) ?_
        rintro ⟨s9, bl2⟩ hs9
        dsimp only at hs9 ⊢
        refine lst_nil ?_
        refine ex_then ?_
        refine cod_cond_bool rfl (fun hc1 => ?_) (fun hc1 => ?_)
        · skip
          refine cod_ghost (G := Nat × Nat) (fun g => g.1 < 18446744073709551616 ∧ g.2 < 64 ∧ 0 &&& g.2 = 0) (fun g => [(0, .pointer (some ⟨hb, 0, none⟩)), (1, .int .i64 (few : Int)), (4, .pointer (some ⟨b4, 0, none⟩)), (5, .pointer (some ⟨b5, 0, none⟩))]) (fun g => .blk hb (hatO nA nums.length nc (tk + 1 + few + few + 1 + few + few + 1 + 1 + 1) (g.1)) :: .blk b5 (.cells [.int .i64 ((0 : Nat) : Int), .int .i64 (g.2 : Int), .int .i64 (k1 : Int), .int .i64 (l0 : Int), .int .i64 (c0 : Int)].toArray 24 (0, 0)) :: .blk b4 (.cells [.int .i64 0, .int .i64 0, .int .i64 0, .int .i64 0, .int .i64 0].toArray 24 (0, 0)) :: T) ?_ ?_
          · skip
            refine any_begin [.b b5, .b hb] F.follows 10 rfl [false, false, false, false, false, false, false, false, false, false] rfl ?_
            refine any_tk 0 rfl rfl rfl (yld_move rfl) ?_
            refine any_tk 1 rfl rfl rfl (yld_move rfl) ?_
            refine any_tk 2 rfl rfl rfl (yld_int rfl rfl (fun w => bin_sub w (wrap_i64' ((few : Int) - 1) (by omega) (by omega)))) ?_
            refine any_tk 5 rfl rfl rfl (yld_field_z rfl F.fi24_0 F.ti3) ?_
            refine any_two 3 6 (by kernel_rfl) rfl rfl rfl rfl ?_ ?_
            · skip
              refine lst_call_pul (X := Nat × Nat) (vs := [_, _]) hb (fun y => hatO nA nums.length nc (tk + 1 + few + few + 1 + few + few + 1 + 1 + 1) (y.1)) (fun y => y.1 < 18446744073709551616 ∧ y.2 ≤ ((few : Int) - 1 : Int).toNat) (fun y => .int .i64 (y.2 : Int)) rfl rfl F.ent25 (fun a w ha => (To_c (C := ⟨Tryd.prog, B, w0, _, _⟩) rfl hB hN (tk := tk + 1 + few + few + 1 + few + few + 1 + 1) (st := s9) (n := (few : Int) - 1) (by omega) hs9 (by omega) ha).mono (fun e w' h => by obtain ⟨s', x, h1, h2, h3, h4⟩ := h; exact ⟨(s', x), ⟨h1, h2⟩, h3, h4⟩)) ?_
              rintro ⟨s10, t3⟩ ⟨hs10, ht3⟩
              dsimp only at hs10 ht3 ⊢
              have hlt3 : 2 ^ t3 < 64 := pow64 ht3 hf1 hfew
              refine lst_nil ?_
              refine any_next sbl ?_
              refine any_tk 4 rfl rfl rfl (yld_shl rfl rfl (by omega) (shl_i64 (by omega))) ?_
              refine any_one 6 (by kernel_rfl) rfl rfl ?_
              refine lst_load rfl rfl F.one3 ?_
              refine lst_nil ?_
              refine any_next sbl ?_
              refine any_tk 7 rfl rfl rfl (yld_int rfl rfl (fun w => bin_andNot w (i64_andNot (2 ^ t3) 0 (by omega) (by omega)))) ?_
              refine any_tk 8 rfl rfl rfl (yld_field_z rfl F.fi24_1 F.ti3) ?_
              refine any_one 9 (by kernel_rfl) rfl rfl ?_
              refine lst_store rfl rfl F.ti3 rfl ?_
              refine lst_nil ?_
              refine any_next sbl ?_
              refine any_done rfl (by kernel_rfl) ?_
              exact ex_ghost (s10, nn (2 ^ t3) 0) ⟨hs10, nn64 hlt3, nn_apart _ _⟩ sbn pkk
            · skip
              refine lst_load rfl rfl F.one3 ?_
              refine lst_nil ?_
              refine any_next sbl ?_
              refine any_one 3 (by kernel_rfl) rfl rfl ?_
              refine lst_call_pul (X := Nat × Nat) (vs := [_, _]) hb (fun y => hatO nA nums.length nc (tk + 1 + few + few + 1 + few + few + 1 + 1 + 1) (y.1)) (fun y => y.1 < 18446744073709551616 ∧ y.2 ≤ ((few : Int) - 1 : Int).toNat) (fun y => .int .i64 (y.2 : Int)) rfl rfl F.ent25 (fun a w ha => (To_c (C := ⟨Tryd.prog, B, w0, _, _⟩) rfl hB hN (tk := tk + 1 + few + few + 1 + few + few + 1 + 1) (st := s9) (n := (few : Int) - 1) (by omega) hs9 (by omega) ha).mono (fun e w' h => by obtain ⟨s', x, h1, h2, h3, h4⟩ := h; exact ⟨(s', x), ⟨h1, h2⟩, h3, h4⟩)) ?_
              rintro ⟨s10, t3⟩ ⟨hs10, ht3⟩
              dsimp only at hs10 ht3 ⊢
              have hlt3 : 2 ^ t3 < 64 := pow64 ht3 hf1 hfew
              refine lst_nil ?_
              refine any_next sbl ?_
              refine any_tk 4 rfl rfl rfl (yld_shl rfl rfl (by omega) (shl_i64 (by omega))) ?_
              refine any_tk 7 rfl rfl rfl (yld_int rfl rfl (fun w => bin_andNot w (i64_andNot (2 ^ t3) 0 (by omega) (by omega)))) ?_
              refine any_tk 8 rfl rfl rfl (yld_field_z rfl F.fi24_1 F.ti3) ?_
              refine any_one 9 (by kernel_rfl) rfl rfl ?_
              refine lst_store rfl rfl F.ti3 rfl ?_
              refine lst_nil ?_
              refine any_next sbl ?_
              refine any_done rfl (by kernel_rfl) ?_
              exact ex_ghost (s10, nn (2 ^ t3) 0) ⟨hs10, nn64 hlt3, nn_apart _ _⟩ sbn pkk
          · skip
            rintro ⟨s10, q1⟩ ⟨hs10, hq1, hq2⟩
            dsimp only at hs10 hq1 hq2 ⊢
            refine ex_then ?_
            refine cod_seq ?_
            refine cod_region ?_
            refine lst_loadN rfl rfl F.agg24 F.ti24 ?_
            refine lst_store rfl rfl F.ti24 rfl ?_
            refine lst_nil ?_
            refine ex_then ?_
            refine cod_ret ?_
            exact ex_ret rfl (fun a w ha => by exact res_cellN (ha := ha) rfl rfl F.agg24 F.ti24 rfl) (fun _ _ ha' => ⟨tk + 1 + few + few + 1 + few + few + 1 + 1 + 1, s10, ⟨0, q1, k1, l0, c0⟩, by omega, hs10, ⟨(show (0 : Nat) < 64 by omega), hq1, hk1, hl0, hq2, ⟨hc0a, hc0b⟩⟩, rfl, ha.back (ha'.pck pkk)⟩)
        · skip
          refine cod_skip ?_
          refine ex_then ?_
          refine cod_seq ?_
          refine cod_region ?_
          refine lst_loadN rfl rfl F.agg24 F.ti24 ?_
          refine lst_store rfl rfl F.ti24 rfl ?_
          refine lst_nil ?_
          refine ex_then ?_
          refine cod_ret ?_
          exact ex_ret rfl (fun a w ha => by exact res_cellN (ha := ha) rfl rfl F.agg24 F.ti24 rfl) (fun _ _ ha' => ⟨tk + 1 + few + few + 1 + few + few + 1 + 1, s9, ⟨0, 0, k1, l0, c0⟩, by omega, hs9, ⟨(show (0 : Nat) < 64 by omega), (show (0 : Nat) < 64 by omega), hk1, hl0, Nat.and_zero _, ⟨hc0a, hc0b⟩⟩, rfl, ha.back (ha'.pck pkk)⟩)

end Go.Proofs.YtofkhehcnfiopaaDoor.N
namespace Go.Proofs.YtofkhehcnfiopaaDoor.N
open Go Go.RowKit Go.Proofs
set_option linter.unusedSectionVars false
variable [I : Sys]
theorem sub_pow {few : Nat} (h : few ≤ 6) : IntKind.i64.wrap (((2 ^ few : Nat) : Int) - 1) = ((2 ^ few - 1 : Nat) : Int) := by
  have h1 : 1 ≤ 2 ^ few := Nat.one_le_two_pow
  have h2 : 2 ^ few ≤ 2 ^ 6 := Nat.pow_le_pow_right (by omega) h
  generalize (2 : Nat) ^ few = q at *
  rw [wrap_i64' _ (by omega) (by omega)]
  omega
/-- What a melt is behind a way; none if it is no way. -/
def followN (ags : List Ag) : Nat → List Nat → Option Nat
  | f, [] => some f
  | f, i :: l => if i < ags.length ∧ mayN (ags.getD i default) f = true then followN ags (putN (ags.getD i default) f) l else none
def followV (o : Option Nat) : Nat := o.getD 0
theorem may_and {x : Ag} {f : Nat} : mayN x f = (decide (f &&& x.needs = x.needs) && decide (f &&& x.no = 0)) := by
  unfold mayN
  have e1 : nn x.needs f = 0 ↔ f &&& x.needs = x.needs := by
    constructor
    · intro h
      apply Nat.eq_of_testBit_eq
      intro i
      have := congrArg (fun n => n.testBit i) h
      simp [nn, Nat.testBit_and, Nat.testBit_xor] at this ⊢
      cases h1 : f.testBit i <;> cases h2 : x.needs.testBit i <;> simp_all
    · intro h
      apply Nat.eq_of_testBit_eq
      intro i
      have := congrArg (fun n => n.testBit i) h
      simp [nn, Nat.testBit_and, Nat.testBit_xor] at this ⊢
      cases h1 : f.testBit i <;> cases h2 : x.needs.testBit i <;> simp_all
  rw [Nat.and_comm x.no f]
  simp [e1]
end Go.Proofs.YtofkhehcnfiopaaDoor.N
namespace Go.Proofs.YtofkhehcnfiopaaDoor.N
open Go Go.RowKit Go.Proofs
set_option linter.unusedSectionVars false
variable [I : Sys]
theorem F.ent50 : Enters Tryd.prog 50 := enters_of Tryd.func50 rfl (by kernel_rfl)
theorem AgentsOf_c {C : Ctx} {fr : List (Nat × Value)} {T : List Res} {a : Act} {w : World} (hC : C.P = Tryd.prog) {hb tk st nc : Nat} {nA : Option Addr} {nums : List Int} (hB : C.w0.heap.size = C.B) (hN : RdL icell 1 C.w0 nA nums) (htk : tk ≤ 980000) (hst : st < 18446744073709551616) {many few : Nat} (hmany : many ≤ 4) (hf1 : 1 ≤ few) (hfew : few ≤ 6) (ha : At C fr (.blk hb (hatO nA nums.length nc (tk) (st)) :: T) a w) : Calls C.P 34 #[.pointer (some ⟨hb, 0, none⟩), .int .i64 (many : Int), .int .i64 (few : Int)] w fun e w' => ∃ (tk' st' : Nat) (l : List Ag) (A : Option Addr) (c : Nat), tk' ≤ tk + 200 ∧ st' < 18446744073709551616 ∧ l.length ≤ many ∧ (∀ x ∈ l, x.ok) ∧ e = .returned (.slice A l.length c) ∧ At C fr (.row 24 5 A l.length c (l.flatMap Ag.cells) :: .blk hb (hatO nA nums.length nc (tk') (st')) :: T) a w' := by
  obtain ⟨P, B, w0, N0, ds⟩ := C
  obtain rfl : P = Tryd.prog := hC
  (try dsimp only at hB)
  (try dsimp only at hN)
  refine enter_in (N := 23) [(0, .pointer (some ⟨hb, 0, none⟩)), (1, .int .i64 (many : Int)), (2, .int .i64 (few : Int))] ha Tryd.func34 rfl Tryd.ntmps34 rfl rfl ?_
  refine cod_seq ?_
  refine cod_region ?_
  refine lst_assign rfl rfl ?_
  refine lst_nil ?_
  refine ex_then ?_
  refine cod_seq ?_
  refine cod_region ?_
  refine lst_assign rfl rfl ?_
  refine lst_nil ?_
  refine ex_then ?_
  refine cod_seq ?_
  refine cod_seq ?_
  refine cod_region ?_
  refine lst_move rfl rfl ?_
  refine lst_move rfl rfl ?_
  refine lst_call_pul (X := Nat × Nat) (vs := [_, _, _]) hb (fun y => hatO nA nums.length nc (tk + 1) (y.1)) (fun y => y.1 < 18446744073709551616 ∧ 0 ≤ y.2 ∧ y.2 ≤ many) (fun y => .int .i64 (y.2 : Int)) rfl rfl F.ent87 (fun a w ha => (From_c (C := ⟨Tryd.prog, B, w0, _, _⟩) rfl hB hN (tk := tk) (st := st) (lo := 0) (hi := many) (by omega) hst (by omega) (by omega) ha).mono (fun e w' h => by obtain ⟨s', x, h1, h2, h3, h4, h5⟩ := h; exact ⟨(s', x), ⟨h1, h2, h3⟩, h4, h5⟩)) ?_
  rintro ⟨s1, n0⟩ ⟨hs1, _, hn0⟩
  dsimp only at hs1 hn0 ⊢
  refine lst_assign rfl rfl ?_
  refine lst_nil ?_
  refine ex_then ?_
  refine cod_block ?_
  refine cod_nil 24 5 ?_
  refine cod_loop' (G := Nat × Nat × Nat × Option Addr × Nat × List Ag) (fun g => g.1 + g.2.2.2.2.2.length ≤ many ∧ (∀ x ∈ g.2.2.2.2.2, x.ok) ∧ g.2.1 ≤ tk + 1 + 40 * g.2.2.2.2.2.length ∧ g.2.2.1 < 18446744073709551616) (fun g => g.1) (fun g => [(0, .pointer (some ⟨hb, 0, none⟩)), (1, .int .i64 (many : Int)), (2, .int .i64 (few : Int)), (7, .slice g.2.2.2.1 g.2.2.2.2.2.length g.2.2.2.2.1), (8, .int .i64 (g.1 : Int))]) (fun g => .row 24 5 g.2.2.2.1 g.2.2.2.2.2.length g.2.2.2.2.1 (g.2.2.2.2.2.flatMap Ag.cells) :: .blk hb (hatO nA nums.length nc (g.2.1) (g.2.2.1)) :: T) (n0, tk + 1, s1, none, 0, []) ⟨by simp; omega, by simp, by simp, hs1⟩ sbn pkk ?_
  rintro ⟨i, t1, s2, A1, c1, l⟩ ⟨hil, hlo, ht1, hs2⟩
  dsimp only at hil hlo ht1 hs2 ⊢
  refine cod_seq ?_
  refine cod_seq ?_
  refine cod_region ?_
  refine lst_move rfl rfl ?_
  refine lst_int rfl rfl rfl bin_gtr ?_
  refine lst_nil ?_
  refine ex_then ?_
  refine cod_cond_dec rfl (fun hc0 => ?_) (fun hc0 => ?_)
  · skip
    obtain ⟨i, rfl⟩ : ∃ i', i = i' + 1 := ⟨i - 1, by omega⟩
    refine cod_skip ?_
    refine ex_then ?_
    refine cod_seq ?_
    refine cod_block ?_
    refine cod_region ?_
    refine lst_move rfl rfl ?_
    refine lst_move rfl rfl ?_
    refine lst_move rfl rfl ?_
    refine lst_call_pul (X := Nat × Nat × Ag) (vs := [_, _]) hb (fun y => hatO nA nums.length nc (y.1) (y.2.1)) (fun y => y.1 ≤ t1 + 40 ∧ y.2.1 < 18446744073709551616 ∧ y.2.2.ok) (fun y => .agg [.int .i64 (y.2.2.needs : Int), .int .i64 (y.2.2.no : Int), .int .i64 (y.2.2.takes : Int), .int .i64 (y.2.2.leaves : Int), .int .i64 (y.2.2.cost : Int)].toArray) rfl rfl F.ent50 (fun a w ha => (AgentOf_c (C := ⟨Tryd.prog, B, w0, _, _⟩) rfl hB hN (tk := t1) (st := s2) (few := few) (by omega) hs2 hf1 hfew ha).mono (fun e w' h => by obtain ⟨t', s', x, h1, h2, h3, h4, h5⟩ := h; exact ⟨(t', s', x), ⟨h1, h2, h3⟩, h4, h5⟩)) ?_
    rintro ⟨t2, s3, x⟩ ⟨ht2, hs3, hxo⟩
    dsimp only at ht2 hs3 hxo ⊢
    refine lst_litN (vs := [(0, _)]) [_, _, _, _, _] rfl rfl Tryd.underlying22 F.ti24 rfl rfl rfl ⟨rfl, [_, _, _, _, _], [], rfl, rfl, rfl, rfl⟩ ?_
    intro b20
    refine lst_append rfl rfl rfl Tryd.underlying22 F.ti24 rfl rfl rfl (by unfold maxLen; omega) (by omega) ?_
    intro A2 c2
    refine lst_assign rfl rfl ?_
    refine lst_nil ?_
    refine ex_block_normal ?_
    refine ex_then ?_
    refine cod_region ?_
    refine lst_move rfl rfl ?_
    refine lst_int rfl rfl rfl (fun w => bin_sub w (show IntKind.i64.wrap (((i + 1 : Nat) : Int) - 1) = (i : Int) from by rw [wrap_i64' _ (by omega) (by omega)]; omega)) ?_
    refine lst_assign rfl rfl ?_
    refine lst_nil ?_
    refine ex_round' (i, t2, s3, A2, c2, l ++ [x]) ⟨by simp; omega, fun y hy => ?_, by simp; omega, hs3⟩ (by (try dsimp only); omega) (by dsimp only; rw [List.length_append, List.length_singleton]; repeat (first | exact Sub.nil _ | refine Sub.cons rfl ?_)) (by dsimp only; rw [List.length_append, List.length_singleton, List.flatMap_append, List.flatMap_singleton]; repeat (first | exact Pck.nil _ | exact Pck.refl _ | (apply Pck.cons; focus ((repeat (first | exact Rem.here _ | apply Rem.there)); done)) | refine Pck.skip _ ?_))
    rcases List.mem_append.1 hy with h | h
    · exact hlo y h
    · simp at h; subst h; exact hxo
  · skip
    refine cod_exit ?_
    refine ex_then_exit ?_
    refine ex_then_exit ?_
    refine ex_block_exit ?_
    refine ex_then ?_
    refine cod_seq ?_
    refine cod_region ?_
    refine lst_move rfl rfl ?_
    refine lst_assign rfl rfl ?_
    refine lst_nil ?_
    refine ex_then ?_
    refine cod_ret ?_
    exact ex_ret rfl (fun a w ha => res_one rfl rfl ha) (fun _ _ ha' => ⟨t1, s2, l, A1, c1, by omega, hs2, by omega, hlo, rfl, ha.back (ha'.pck pkk)⟩)

theorem PassOf_c {C : Ctx} {fr : List (Nat × Value)} {T : List Res} {a : Act} {w : World} (hC : C.P = Tryd.prog) {hb tk st nc : Nat} {nA : Option Addr} {nums : List Int} (hB : C.w0.heap.size = C.B) (hN : RdL icell 1 C.w0 nA nums) (htk : tk ≤ 990000) (hst : st < 18446744073709551616) {few : Nat} (hfew : few ≤ 6) (ha : At C fr (.blk hb (hatO nA nums.length nc (tk) (st)) :: T) a w) : Calls C.P 26 #[.pointer (some ⟨hb, 0, none⟩), .int .i64 (few : Int)] w fun e w' => ∃ st' x : Nat, st' < 18446744073709551616 ∧ x < 64 ∧ e = .returned (.int .i64 (x : Int)) ∧ At C fr (.blk hb (hatO nA nums.length nc (tk + few + few) (st')) :: T) a w' := by
  have hpw : 2 ^ few ≤ 64 := (show 2 ^ few ≤ 2 ^ 6 from Nat.pow_le_pow_right (by omega) hfew)
  have hpw1 : 1 ≤ 2 ^ few := Nat.one_le_two_pow
  obtain ⟨P, B, w0, N0, ds⟩ := C
  obtain rfl : P = Tryd.prog := hC
  (try dsimp only at hB)
  (try dsimp only at hN)
  refine enter_in (N := 17) [(0, .pointer (some ⟨hb, 0, none⟩)), (1, .int .i64 (few : Int))] ha Tryd.func26 rfl Tryd.ntmps26 rfl rfl ?_
  refine cod_seq ?_
  refine cod_region ?_
  refine lst_assign rfl rfl ?_
  refine lst_nil ?_
  refine ex_then ?_
  refine cod_seq ?_
  refine any_begin [.b hb] F.follows 13 rfl [false, false, false, false, false, false, false, false, false, false, false, false, false] rfl ?_
  refine any_tk 0 rfl rfl rfl (yld_move rfl) ?_
  refine any_tk 1 rfl rfl rfl (yld_shl rfl rfl (by omega) (shl_i64 (by omega))) ?_
  refine any_tk 2 rfl rfl rfl (yld_int rfl rfl (fun w => bin_sub w (sub_pow hfew))) ?_
  refine any_tk 3 rfl rfl rfl (yld_int rfl rfl (fun w => bin_andNot w (i64_andNot 63 (2 ^ few - 1) (by omega) (by omega)))) ?_
  refine any_tk 4 rfl rfl rfl (yld_move rfl) ?_
  refine any_tk 5 rfl rfl rfl (yld_move rfl) ?_
  refine any_tk 7 rfl rfl rfl (yld_move rfl) ?_
  refine any_tk 8 rfl rfl rfl (yld_move rfl) ?_
  refine any_one 6 (by kernel_rfl) rfl rfl ?_
  refine lst_call_pul (X := Nat × Nat) (vs := [_, _]) hb (fun y => hatO nA nums.length nc (tk + few) (y.1)) (fun y => y.1 < 18446744073709551616 ∧ y.2 < 2 ^ few) (fun y => .int .i64 (y.2 : Int)) rfl rfl F.ent63 (fun a w ha => (FaultsOf_c (C := ⟨Tryd.prog, B, w0, _, _⟩) rfl hB hN (tk := tk) (st := st) (few := few) (by omega) hst hfew ha).mono (fun e w' h => by obtain ⟨s', x, h1, h2, h3, h4⟩ := h; exact ⟨(s', x), ⟨h1, h2⟩, h3, h4⟩)) ?_
  rintro ⟨s1, f1⟩ ⟨hs1, hf1⟩
  dsimp only at hs1 hf1 ⊢
  have hlf1 : f1 < 64 := few64 hf1 hfew
  refine lst_nil ?_
  refine any_next sbl ?_
  refine any_one 9 (by kernel_rfl) rfl rfl ?_
  refine lst_call_pul (X := Nat × Nat) (vs := [_, _]) hb (fun y => hatO nA nums.length nc (tk + few + few) (y.1)) (fun y => y.1 < 18446744073709551616 ∧ y.2 < 2 ^ few) (fun y => .int .i64 (y.2 : Int)) rfl rfl F.ent63 (fun a w ha => (FaultsOf_c (C := ⟨Tryd.prog, B, w0, _, _⟩) rfl hB hN (tk := tk + few) (st := s1) (few := few) (by omega) hs1 hfew ha).mono (fun e w' h => by obtain ⟨s', x, h1, h2, h3, h4⟩ := h; exact ⟨(s', x), ⟨h1, h2⟩, h3, h4⟩)) ?_
  rintro ⟨s2, f2⟩ ⟨hs2, hf2⟩
  dsimp only at hs2 hf2 ⊢
  have hlf2 : f2 < 64 := few64 hf2 hfew
  refine lst_nil ?_
  refine any_next sbl ?_
  refine any_tk 10 rfl rfl rfl (yld_int rfl rfl (fun w => bin_and w (i64_and f1 f2 (by omega) (by omega)))) ?_
  have hl12 : f1 &&& f2 < 64 := and64 hlf1
  have hln : nn 63 (2 ^ few - 1) < 64 := nn64 (by omega)
  refine any_tk 11 rfl rfl rfl (yld_int rfl rfl (fun w => bin_or w (i64_or (nn 63 (2 ^ few - 1)) (f1 &&& f2) (by omega) (by omega)))) ?_
  refine any_tk 12 rfl rfl rfl (yld_assign rfl) ?_
  refine any_done rfl (by kernel_rfl) ?_
  refine ex_then ?_
  refine cod_ret ?_
  exact ex_ret rfl (fun a w ha => res_one rfl rfl ha) (fun _ _ ha' => ⟨s2, _, hs2, or64 hln hl12, rfl, ha.back (ha'.pck pkk)⟩)

theorem Clear_c (f p : Nat) (hf : f < 64) (hp : p < 64) (w : World) : Calls Tryd.prog 37 #[.int .i64 (f : Int), .int .i64 (p : Int)] w fun e w' => e = .returned (.bool (decide (nn f p = 0))) ∧ Grew w w' [] := by
  refine enter (N := 9) [(0, .int .i64 (f : Int)), (1, .int .i64 (p : Int))] Tryd.func37 rfl Tryd.ntmps37 rfl rfl ?_
  refine cod_seq ?_
  refine cod_region ?_
  refine lst_assign rfl rfl ?_
  refine lst_nil ?_
  refine ex_then ?_
  refine cod_seq ?_
  refine cod_region ?_
  refine lst_move rfl rfl ?_
  refine lst_move rfl rfl ?_
  refine lst_int rfl rfl rfl (fun w => bin_andNot w (i64_andNot f p (by omega) (by omega))) ?_
  refine lst_int rfl rfl rfl bin_eql ?_
  refine lst_assign rfl rfl ?_
  refine lst_nil ?_
  refine ex_then ?_
  refine cod_ret ?_
  refine ex_ret rfl (fun a w ha => res_one rfl rfl ha) (fun a w ha => ?_)
  exact ⟨by rw [dec_zero], ha.grown (List.nil_sublist _)⟩

end Go.Proofs.YtofkhehcnfiopaaDoor.N
namespace Go.Proofs.YtofkhehcnfiopaaDoor.N
open Go Go.RowKit Go.Proofs
set_option linter.unusedSectionVars false
variable [I : Sys]
section
variable {C : Ctx} {fr : List (Nat × Value)} {hp hp' : List Res} {a : Act} {w : World} {ops : Array Oper} {Q : Exit → Act → World → Prop} {rest : List Oper}
  {d : Nat} {ty : TypeId} {pos : String} {after : Array Edge}
/-- Nothing is appended. -/
theorem lst_append_none {x y : Operand} {t e : TypeId} {p : Addr} {n c size bytes : Nat} {z : Value} (hd : Nat.blt d C.N = true)
    (hx : ev fr x = some (.slice (some p) n c)) (hy : ev fr y = some (.slice none 0 0)) (ht : C.P.underlying t = some (.slice e)) (hi : TI C.P e z size bytes) (hnc : n ≤ c)
    (k : Lst C ops Q rest ((d, .slice (some p) n c) :: fr) hp) :
    Lst C ops Q (⟨some d, .call { callee := .builtin .append, args := #[x, y], argTypes := #[t, t] }, ty, pos, after, none⟩ :: rest) fr hp := by
  obtain ⟨i, hi1, hi2, hi3, hi4⟩ := hi
  refine lst_value _ hd (fun a w ha => tame_builtin fun cs => by simp only [List.map_toArray, List.map_cons, List.map_nil, ha.eval hx, ha.eval hy]; exact tame_append ht) (fun a w ha => ⟨w, ?_, ha⟩) k
  have hr : (Builtin.append_ #[t, t] ty #[.slice (some p) n c, .slice none 0 0]).run C.P w = .ok (.slice (some p) n c) w := by
    simp [Builtin.append_, run_underlying ht, sizeOf, typeInfo, hi1, Builtin.lenOf, hnc, run_firstCells_none, storeCells]
  simp only [execOp, resolve, invoke, builtin, Sem.run_bind, Sem.run_pure, Result.andThen_ok, List.map_toArray, List.map_cons, List.map_nil, ha.eval hx, ha.eval hy, hr]
end
/-- A list of numbers, somewhere. -/
structure Sl where
  A : Option Addr
  c : Nat
  l : List Nat
def Sl.val (s : Sl) : Value := .slice s.A s.l.length s.c
def Sl.res (s : Sl) : Res := .row 3 1 s.A s.l.length s.c (ints s.l)
theorem Pck.snoc (Ms : List Sl) (s : Sl) (R : List Res) : Pck ((Ms ++ [s]).map Sl.res ++ R) (s.res :: (Ms.map Sl.res ++ R)) := by
  refine .perm ?_ (.refl _)
  rw [List.map_append, List.append_assoc]
  exact List.perm_middle.symm
/-- All lists of k numbers below n, in their order. -/
def strs (n : Nat) : Nat → List (List Nat)
  | 0 => [[]]
  | k + 1 => (strs n k).flatMap fun x => (List.range n).map fun y => x ++ [y]
end Go.Proofs.YtofkhehcnfiopaaDoor.N
namespace Go.Proofs.YtofkhehcnfiopaaDoor.N
open Go Go.RowKit Go.Proofs
set_option linter.unusedSectionVars false
variable [I : Sys]
theorem Pck.of_sub {t l : List Res} (h : t.Sublist l) : Pck t l := by
  induction h with
  | slnil => exact .nil _
  | cons x _ ih => exact .skip x ih
  | cons_cons x _ ih => exact .cons (.here _) ih
theorem Pck.pre (l R : List Res) : Pck (l ++ []) (l ++ R) := .of_sub (by rw [List.append_nil]; exact List.sublist_append_left l R)
theorem row_none {C : Ctx} {fr : List (Nat × Value)} {hp : List Res} {a : Act} {w : World} (ha : At C fr hp a w) {e size n c : Nat} {A : Option Addr} {xs : List Value} (hm : Res.row e size A n c xs ∈ hp) (hA : A = none) : n = 0 ∧ c = 0 := by
  subst hA
  rcases (ha.own _ hm).2 with ⟨h1, h2⟩ | ⟨g, cap, cur, h1, _⟩
  · injection h1 with _ h3 h4
    exact ⟨h2, h4⟩
  · cases h1
theorem strs_mem {n : Nat} : ∀ {k : Nat} {x : List Nat}, x ∈ strs n k → x.length = k ∧ ∀ i ∈ x, i < n
  | 0, x, h => by
    simp [strs] at h
    subst h
    exact ⟨rfl, by simp⟩
  | k + 1, x, h => by
    unfold strs at h
    obtain ⟨y, hy, h2⟩ := List.mem_flatMap.1 h
    obtain ⟨z, hz, rfl⟩ := List.mem_map.1 h2
    obtain ⟨h3, h4⟩ := strs_mem hy
    refine ⟨by simp [h3], fun i hi => ?_⟩
    rcases List.mem_append.1 hi with h5 | h5
    · exact h4 i h5
    · simp at h5; subst h5; exact List.mem_range.1 hz
end Go.Proofs.YtofkhehcnfiopaaDoor.N
namespace Go.Proofs.YtofkhehcnfiopaaDoor.N
open Go Go.RowKit Go.Proofs
set_option linter.unusedSectionVars false
variable [I : Sys]
theorem Pck.swap (l R : List Res) : Pck (R ++ l) (l ++ R) := .perm List.perm_append_comm (.refl _)
theorem agd_ok {ags : List Ag} (hok : Oks ags) {i : Nat} (hi : i < ags.length) : (ags.getD i default).ok := by
  rw [List.getD_eq_getElem?_getD, List.getElem?_eq_getElem hi]
  exact hok.2 _ (List.getElem_mem hi)
/-- A list of agents that clears both melts. -/
def clears (ags : List Ag) (a b p : Nat) (v : List Nat) : Bool :=
  (followN ags a v).isSome && (followN ags b v).isSome && decide (nn (followV (followN ags a v)) p = 0) && decide (nn (followV (followN ags b v)) p = 0)
/-! Lists in their order. -/
theorem strs_all {n : Nat} : ∀ {k : Nat} {v : List Nat}, Wd n v → v.length = k → v ∈ strs n k
  | 0, v, _, h => by
    obtain rfl : v = [] := List.eq_nil_of_length_eq_zero h
    simp [strs]
  | k + 1, v, hv, h => by
    rcases snoc_cases v with rfl | ⟨u, i, rfl⟩
    · simp at h
    · obtain ⟨h1, h2⟩ := Wd.snoc.1 hv
      unfold strs
      exact List.mem_flatMap.2 ⟨u, strs_all h1 (by simpa using h), List.mem_map.2 ⟨i, List.mem_range.2 h2, rfl⟩⟩
theorem strs_sorted (n : Nat) : ∀ k, (strs n k).Pairwise (fun u v => code n u < code n v)
  | 0 => by simp [strs]
  | k + 1 => by
    unfold strs
    rw [List.pairwise_flatMap]
    refine ⟨fun x _ => ?_, ?_⟩
    · rw [List.pairwise_map]
      refine List.Pairwise.imp ?_ List.pairwise_lt_range
      intro i j hij
      rw [code_snoc, code_snoc]
      omega
    · refine List.Pairwise.imp ?_ (strs_sorted n k)
      intro u v huv x hx y hy
      obtain ⟨i, hi, rfl⟩ := List.mem_map.1 hx
      obtain ⟨j, _, rfl⟩ := List.mem_map.1 hy
      rw [code_snoc, code_snoc]
      exact code_snoc_lt huv (List.mem_range.1 hi)
theorem strs_le_code {n k i j : Nat} {u v : List Nat} (hu : (strs n k)[i]? = some u) (hv : (strs n k)[j]? = some v) (hij : i ≤ j) : code n u ≤ code n v := by
  rcases Nat.lt_or_ge i j with h | h
  · obtain ⟨h1, e1⟩ := List.getElem?_eq_some_iff.1 hu
    obtain ⟨h2, e2⟩ := List.getElem?_eq_some_iff.1 hv
    have := List.pairwise_iff_getElem.1 (strs_sorted n k) i j h1 h2 h
    rw [e1, e2] at this
    omega
  · obtain rfl : i = j := by omega
    rw [hu] at hv
    cases hv
    exact Nat.le_refl _
end Go.Proofs.YtofkhehcnfiopaaDoor.N
namespace Go.Proofs.YtofkhehcnfiopaaDoor.N
open Go Go.RowKit Go.Proofs
set_option linter.unusedSectionVars false
variable [I : Sys]
theorem F.ent21 : Enters Tryd.prog 21 := enters_of Tryd.func21 rfl (by kernel_rfl)
theorem F.ent22 : Enters Tryd.prog 22 := enters_of Tryd.func22 rfl (by kernel_rfl)
theorem F.ent26 : Enters Tryd.prog 26 := enters_of Tryd.func26 rfl (by kernel_rfl)
theorem F.ent34 : Enters Tryd.prog 34 := enters_of Tryd.func34 rfl (by kernel_rfl)
theorem F.ent37 : Enters Tryd.prog 37 := enters_of Tryd.func37 rfl (by kernel_rfl)
theorem F.pl68 : Places Tryd.prog 68 [(0, 1), (1, 1), (2, 1)] := .inl ⟨_, Tryd.underlying68, by kernel_rfl⟩
theorem F.ti68 : TI Tryd.prog 68 (.agg [.slice none 0 0, .int .i64 0, .int .u64 0].toArray) 3 40 := TI.of (by kernel_rfl)
theorem NewHat_c (nA : Option Addr) (n nc : Nat) (w : World) : Calls Tryd.prog 22 #[.slice nA n nc] w fun e w' => ∃ b, e = .returned (.pointer (some ⟨b, 0, none⟩)) ∧ Grew w w' [.blk b (hatO nA n nc 0 11400714819323198485)] := by
  refine enter (N := 6) [(0, .slice nA n nc)] Tryd.func22 rfl Tryd.ntmps22 rfl rfl ?_
  refine cod_seq ?_
  refine cod_region ?_
  refine lst_assign rfl rfl ?_
  refine lst_nil ?_
  refine ex_then ?_
  refine cod_seq ?_
  refine cod_region ?_
  refine lst_move rfl rfl ?_
  refine lst_struct (vs := [(0, _), (2, _)]) (l' := [_, _, _]) rfl rfl F.ti68 F.pl68 (.cons rfl rfl (.cons rfl rfl (.nil _))) rfl ?_
  refine lst_box rfl rfl ?_
  intro b5
  refine lst_assign rfl rfl ?_
  refine lst_nil ?_
  refine ex_then ?_
  refine cod_ret ?_
  exact ex_ret rfl (fun a w ha => res_one rfl rfl ha) (fun a w ha => ⟨b5, rfl, ha.grown sbl⟩)

end Go.Proofs.YtofkhehcnfiopaaDoor.N
namespace Go.Proofs.YtofkhehcnfiopaaDoor.N
open Go Go.RowKit Go.Proofs
set_option linter.unusedSectionVars false
variable [I : Sys]
variable {ags : List Ag} {a b : Nat}
/-- A list whose last agent may be put to just one of both melts. -/
def tq (ags : List Ag) (a b : Nat) (v : List Nat) : Bool :=
  (followN ags a v.dropLast).isSome && (followN ags b v.dropLast).isSome && ((followN ags a v).isSome != (followN ags b v).isSome)
theorem tq_sym (v : List Nat) : tq ags a b v = tq ags b a v := by
  unfold tq
  cases (followN ags a v.dropLast).isSome <;> cases (followN ags b v.dropLast).isSome <;> cases (followN ags a v).isSome <;> cases (followN ags b v).isSome <;> rfl
theorem tq_self (v : List Nat) : tq ags a a v = false := by
  unfold tq
  simp
def TellsS (ags : List Ag) (a b : Nat) : Option Wk → Prop
  | none => ∀ v, v.length ≤ 5 → tq ags a b v = false
  | some k => tq ags a b (k.how ++ [tellsI ags k.team]) = true ∧ Wd ags.length (k.how ++ [tellsI ags k.team]) ∧ (k.how ++ [tellsI ags k.team]).length ≤ 5 ∧ ∀ v, tq ags a b v = true → v.length ≤ 5 → code ags.length (k.how ++ [tellsI ags k.team]) ≤ code ags.length v
theorem TellsS.sym {o : Option Wk} (h : TellsS ags a b o) : TellsS ags b a o := by
  cases o with
  | none => exact fun v hv => by rw [tq_sym]; exact h v hv
  | some k => exact ⟨by rw [tq_sym]; exact h.1, h.2.1, h.2.2.1, fun v hv => h.2.2.2 v (by rw [tq_sym]; exact hv)⟩
theorem TellsS.self {o : Option Wk} (h : TellsS ags a a o) : o = none := by
  cases o with
  | none => rfl
  | some k => have := h.1; rw [tq_self] at this; cases this
theorem TellsS.at {o : Option Wk} (h : TellsS ags a b o) {k i : Nat} {v : List Nat} (hk : k ≤ 5) (hv : (strs ags.length k)[i]? = some v) (hc : tq ags a b v = true) (h0 : ∀ u, Wd ags.length u → u.length < k → tq ags a b u = false)
    (h1 : ∀ j u, j < i → (strs ags.length k)[j]? = some u → tq ags a b u = false) : o.isSome = true ∧ tellsL ags o = v := by
  have hvl := (strs_mem (List.mem_of_getElem? hv)).1
  have hvw : Wd ags.length v := (strs_mem (List.mem_of_getElem? hv)).2
  cases o with
  | none => have := h v (by omega); rw [hc] at this; cases this
  | some w =>
    refine ⟨rfl, ?_⟩
    obtain ⟨g1, g2, g3, g4⟩ := h
    have hle := g4 v hc (by omega)
    show w.how ++ [tellsI ags w.team] = v
    rcases Nat.lt_trichotomy (w.how ++ [tellsI ags w.team]).length k with hl | hl | hl
    · rw [h0 _ g2 hl] at g1; cases g1
    · obtain ⟨j, hj⟩ := List.getElem?_of_mem (strs_all g2 hl)
      rcases Nat.lt_or_ge j i with h2 | h2
      · rw [h1 j _ h2 hj] at g1; cases g1
      · exact code_inj ags.length _ _ _ rfl g2 hvw (Nat.le_antisymm hle (strs_le_code hv hj h2))
    · have := code_lt_of_len ags.length _ (w.how ++ [tellsI ags w.team]) v rfl (by omega) hvw
      omega
end Go.Proofs.YtofkhehcnfiopaaDoor.N
namespace Go.Proofs.YtofkhehcnfiopaaDoor.N
open Go Go.RowKit Go.Proofs
set_option linter.unusedSectionVars false
variable [I : Sys]
variable {C : Ctx} {fr : List (Nat × Value)} {hp : List Res} {ops : Array Oper} {Q : Exit → Act → World → Prop} {rest : List Oper} {d : Nat} {ty : TypeId} {pos : String} {after : Array Edge}
theorem RdL.take {α : Type} {cells : α → List Value} {size : Nat} {w : World} {A : Option Addr} {l : List α} (h : RdL cells size w A l) (n : Nat) : RdL cells size w A (l.take n) := fun hl => by
  rw [List.length_take] at hl
  obtain ⟨b, o, h1, h2, h3⟩ := h (by omega)
  refine ⟨b, o, h1, h2, fun k x hk j u hu => h3 k x ?_ j u hu⟩
  rw [List.getElem?_take] at hk
  split at hk
  · exact hk
  · cases hk
theorem RdL.drop {α : Type} {cells : α → List Value} {size : Nat} {w : World} {A : Option Addr} {l : List α} (h : RdL cells size w A l) {n cap : Nat} (hc : l.length ≤ cap) : RdL cells size w (if cap = n then A else A.map (·.add (n * size))) (l.drop n) := fun hl => by
  rw [List.length_drop] at hl
  obtain ⟨b, o, h1, h2, h3⟩ := h (by omega)
  rw [if_neg (by omega), h1]
  refine ⟨b, o + n * size, by rw [Option.map_some, addr_add], h2, fun k x hk j u hu => ?_⟩
  rw [List.getElem?_drop] at hk
  have := h3 (n + k) x hk j u hu
  rw [← this]
  congr 2
  rw [Nat.add_mul]
  omega
end Go.Proofs.YtofkhehcnfiopaaDoor.N
