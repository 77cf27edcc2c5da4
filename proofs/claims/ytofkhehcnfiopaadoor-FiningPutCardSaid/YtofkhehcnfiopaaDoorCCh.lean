/- Parts of the walks of the laws on fining: Ch, F21. -/
import Derived.Test.YtofkhehcnfiopaaDoorCOpt
import Derived.Test.YtofkhehcnfiopaaDoorCKit
import Derived.Test.YtofkhehcnfiopaaDoorProg
namespace Go.Proofs.YtofkhehcnfiopaaDoor.N
open Go Go.RowKit Go.Proofs
theorem Cheapest_s (A : Option Addr) (c : Nat) (ags : List Ag) (hok : Oks ags) (f p : Nat) (hf : f < 64) (hp : p < 64) (w : World) (hA : RdL Ag.cells 5 w A ags) : Calls Tryd.prog 35 #[.slice A ags.length c, .int .i64 (f : Int), .int .i64 (p : Int)] w fun e w' => ∃ (W : List Nat) (k E : Nat) (A' : Option Addr) (c' : Nat),
    ChS ags p f W k E ∧ e = .returned (.tuple #[.slice A' W.length c', .int .i64 (k : Int), .int .i64 (E : Int)]) ∧ Grew w w' [.row 3 1 A' W.length c' (ints W)] := by
  obtain ⟨N, h1, h2⟩ := fix_any (p := p) hok
  refine (Cheapest_ok A c ags hok f p N hf hp h1 h2 w hA).mono fun e w' h => ?_
  obtain ⟨j, ps, A', c', _, rfl, h4, h5, h6⟩ := h
  exact ⟨_, _, _, A', c', cheap_spec hok hf h4, h5, h6⟩
theorem ChS.wd {ags : List Ag} {p f c E : Nat} {W : List Nat} (h : ChS ags p f W c E) : Wd ags.length W := by
  by_cases hE : E = 0
  · exact (h.yes hE).2.2.2.1
  · rw [(h.no hE).2.2.1]
    exact fun i hi => by simp at hi
theorem costN_take {ags : List Ag} {W : List Nat} {i x : Nat} (h : W[i]? = some x) : costN ags (W.take (i + 1)) = costN ags (W.take i) + (ags.getD x default).cost := by
  rw [List.take_add_one, h]
  exact costN_snoc _ _
theorem costN_take_le {ags : List Ag} (hok : Oks ags) (W : List Nat) (i : Nat) (h : W.length ≤ 63) : costN ags (W.take i) ≤ 567 := by
  have h1 := costN_le hok (W.take i)
  rw [List.length_take] at h1
  omega
/-- What is known once the way has been followed. -/
theorem ChS.walked {ags : List Ag} {p f c E : Nat} {W : List Nat} {i : Nat} (h : ChS ags p f W c E) (hi : i ≤ W.length) (hend : (decide (i < W.length) && (followN ags f W).isSome) = false) :
    (E = 0 → (followN ags f W).isSome = true ∧ nn (followV (followN ags f W)) p = 0 ∧ costN ags (W.take i) = c) ∧ (E ≠ 0 → E = 11 ∧ c = 0 ∧ W.length = 0) := by
  refine ⟨fun hE => ?_, fun hE => ?_⟩
  · obtain ⟨_, ⟨e, h1, h2⟩, h3, _, _⟩ := h.yes hE
    rw [h1] at hend ⊢
    simp at hend
    obtain rfl : i = W.length := by omega
    exact ⟨rfl, h2, by rw [List.take_length]; exact h3⟩
  · obtain ⟨h1, h2, h3, _⟩ := h.no hE
    exact ⟨h1, h2, by rw [h3]; rfl⟩
theorem run_eqb {P : Program} {t : TypeId} (ht : P.underlying t = some .bool) (u v : Bool) (x y : Operand) (w : World) : (do eqGuard .eql t x y (.bool u) (.bool v); binOp .eql t (.bool u) (.bool v) : Sem Value).run P w = .ok (.bool (u == v)) w := by
  have hg : (eqGuard .eql t x y (.bool u) (.bool v)).run P w = .ok () w := by simp [eqGuard]
  have hb : (binOp .eql t (.bool u) (.bool v)).run P w = .ok (.bool (u == v)) w := by
    show (do pure (.bool (← Op.equal t (.bool u) (.bool v))) : Sem Value).run P w = _
    have he : (Op.equal t (.bool u) (.bool v)).run P w = .ok (u == v) w := by
      show (Op.equalIn (9999 + 1) t (.bool u) (.bool v)).run P w = _
      unfold Op.equalIn
      simp only [Sem.run_bind, run_underlying ht, Result.andThen_ok]
      simp
    simp only [Sem.run_bind, he, Result.andThen_ok, Sem.run_pure]
  simp only [Sem.run_bind, hg, Result.andThen_ok, hb]
theorem follow_one {ags : List Ag} {m i : Nat} (hi : i < ags.length) : followN ags m [i] = if mayN (ags.getD i default) m = true then some (putN (ags.getD i default) m) else none := by
  show (if i < ags.length ∧ mayN (ags.getD i default) m = true then some (putN (ags.getD i default) m) else none) = _
  by_cases h : mayN (ags.getD i default) m = true
  · rw [if_pos ⟨hi, h⟩, if_pos h]
  · rw [if_neg (fun x => h x.2), if_neg h]
theorem follow_one1 {ags : List Ag} {m i : Nat} (hi : i < ags.length) : followV (followN ags m [i]) = if mayN (ags.getD i default) m = true then putN (ags.getD i default) m else 0 := by
  rw [follow_one hi]
  split <;> rfl
theorem follow_one2 {ags : List Ag} {m i : Nat} (hi : i < ags.length) : (followN ags m [i]).isSome = mayN (ags.getD i default) m := by
  rw [follow_one hi]
  split
  · rename_i h; rw [h]; rfl
  · rename_i h; rw [Bool.not_eq_true] at h; rw [h]; rfl
/-- Whether one of the first agents, put first, makes it cost just as much. -/
def Eqv (ags : List Ag) (p m c i : Nat) (b : Bool) : Prop := b = true ↔ ∃ j, j < i ∧ mayN (ags.getD j default) m = true ∧ ∃ n k, Opt ags (usedAll ags.length) p (putN (ags.getD j default) m) n k ∧ n + (ags.getD j default).cost = c
theorem Eqv.zero {ags : List Ag} {p m c : Nat} : Eqv ags p m c 0 false := ⟨fun h => (by cases h), fun ⟨j, h, _⟩ => absurd h (by omega)⟩
theorem Eqv.skip {ags : List Ag} {p m c i : Nat} {b : Bool} (h : Eqv ags p m c i b) (hn : mayN (ags.getD i default) m = true → ∀ n k, ¬ Opt ags (usedAll ags.length) p (putN (ags.getD i default) m) n k) : Eqv ags p m c (i + 1) b := by
  refine ⟨fun hb => ?_, fun ⟨j, h1, h2, n, k, h3, h4⟩ => ?_⟩
  · obtain ⟨j, h1, h2⟩ := h.1 hb
    exact ⟨j, by omega, h2⟩
  · rcases Nat.lt_or_ge j i with h5 | h5
    · exact h.2 ⟨j, h5, h2, n, k, h3, h4⟩
    · obtain rfl : j = i := by omega
      exact absurd h3 (hn h2 n k)
theorem Eqv.hit {ags : List Ag} {p m c i n k : Nat} {b : Bool} (h : Eqv ags p m c i b) (hm : mayN (ags.getD i default) m = true) (ho : Opt ags (usedAll ags.length) p (putN (ags.getD i default) m) n k) : Eqv ags p m c (i + 1) (b || decide (((n : Int) + ((ags.getD i default).cost : Int)) = (c : Int))) := by
  refine ⟨fun hb => ?_, fun ⟨j, h1, h2, n', k', h3, h4⟩ => ?_⟩
  · rcases Bool.or_eq_true_iff.1 hb with hb | hb
    · obtain ⟨j, h1, h2⟩ := h.1 hb
      exact ⟨j, by omega, h2⟩
    · have := of_decide_eq_true hb
      exact ⟨i, by omega, hm, n, k, ho, by omega⟩
  · rw [Bool.or_eq_true]
    rcases Nat.lt_or_ge j i with h5 | h5
    · exact .inl (h.2 ⟨j, h5, h2, n', k', h3, h4⟩)
    · obtain rfl : j = i := by omega
      obtain ⟨e, _⟩ := ho.uniq h3
      refine .inr (decide_eq_true ?_)
      omega
end Go.Proofs.YtofkhehcnfiopaaDoor.N
namespace Go.Proofs.YtofkhehcnfiopaaDoor.N
open Go Go.RowKit Go.Proofs

theorem FiningCheapest_c (nA : Option Addr) (nc : Nat) (nums : List Int) (w : World) (hN : RdL icell 1 w nA nums) : Calls Tryd.prog 4 #[.slice nA nums.length nc] w fun e w' => e = .returned (.bool true) ∧ Grew w w' [] := by
  refine enter (N := 191) [(0, .slice nA nums.length nc)] Tryd.func4 rfl Tryd.ntmps4 rfl rfl ?_
  refine cod_seq ?_
  refine cod_region ?_
  refine lst_assign rfl rfl ?_
  refine lst_nil ?_
  refine ex_then ?_
  refine cod_seq ?_
  refine cod_region ?_
  refine lst_move rfl rfl ?_
  refine lst_fn (X := Nat) (vs := [_]) (p := fun _ => True) (val := fun b => .pointer (some ⟨b, 0, none⟩)) (rs := fun b => [.blk b (hatO nA nums.length nc 0 11400714819323198485)]) rfl rfl F.ent22 (fun a w ha => (NewHat_c nA nums.length nc w).mono (fun e w' h => by obtain ⟨b, h1, h2⟩ := h; exact ⟨b, trivial, h1, h2⟩)) ?_
  intro hb _
  dsimp only [List.cons_append, List.nil_append]
  refine lst_assign rfl rfl ?_
  refine lst_nil ?_
  refine ex_then ?_
  refine cod_seq ?_
  refine cod_region ?_
  refine lst_move rfl rfl ?_
  refine lst_call (X := Nat × Nat × List Ag × Option Addr × Nat) (first := []) (cap := []) (vs := [_, _, _]) (p := fun y => y.1 ≤ 200 ∧ y.2.1 < 18446744073709551616 ∧ y.2.2.1.length ≤ 4 ∧ ∀ x ∈ y.2.2.1, x.ok) (val := fun y => .slice y.2.2.2.1 y.2.2.1.length y.2.2.2.2) (rs := fun y => .row 24 5 y.2.2.2.1 y.2.2.1.length y.2.2.2.2 (y.2.2.1.flatMap Ag.cells) :: .blk hb (hatO nA nums.length nc y.1 y.2.1) :: []) rfl rfl rfl F.ent34 (fun a w ha => (AgentsOf_c (C := ⟨Tryd.prog, _, _, _, _⟩) (T := []) (tk := 0) (many := 4) (few := 4) rfl rfl hN (by omega) (by omega) (by omega) (by omega) (by omega) ha).mono (fun e w' h => by obtain ⟨t', s', l, A', c', h1, h2, h3, h4, h5, h6⟩ := h; exact ⟨(t', s', l, A', c'), ⟨by omega, h2, h3, h4⟩, h5, h6⟩)) ?_
  rintro ⟨t1, s1, ags, aA, ac⟩ ⟨ht1, hs1, hagl, hago⟩
  dsimp only at ht1 hs1 hagl hago ⊢
  have hok : Oks ags := ⟨by omega, hago⟩
  refine lst_move rfl rfl ?_
  refine lst_call_pul (X := Nat × Nat) (vs := [_, _]) hb (fun y => hatO nA nums.length nc (t1 + 1) (y.1)) (fun y => y.1 < 18446744073709551616 ∧ y.2 ≤ (15 : Int).toNat) (fun y => .int .i64 (y.2 : Int)) rfl rfl F.ent25 (fun a w ha => (To_c (C := ⟨Tryd.prog, _, _, _, _⟩) rfl rfl hN (tk := t1) (st := s1) (n := 15) (by omega) hs1 (by omega) ha).mono (fun e w' h => by obtain ⟨s', x, h1, h2, h3, h4⟩ := h; exact ⟨(s', x), ⟨h1, h2⟩, h3, h4⟩)) ?_
  rintro ⟨s2, m1⟩ ⟨hs2, hm1⟩
  dsimp only at hs2 hm1 ⊢
  have hlm1 : m1 ≤ 15 := by omega
  refine lst_move rfl rfl ?_
  refine lst_call_pul (X := Nat × Nat) (vs := [_, _]) hb (fun y => hatO nA nums.length nc (t1 + 1 + 4 + 4) (y.1)) (fun y => y.1 < 18446744073709551616 ∧ y.2 < 64) (fun y => .int .i64 (y.2 : Int)) rfl rfl F.ent26 (fun a w ha => (PassOf_c (C := ⟨Tryd.prog, _, _, _, _⟩) rfl rfl hN (tk := t1 + 1) (st := s2) (few := 4) (by omega) hs2 (by omega) ha).mono (fun e w' h => by obtain ⟨s', x, h1, h2, h3, h4⟩ := h; exact ⟨(s', x), ⟨h1, h2⟩, h3, h4⟩)) ?_
  rintro ⟨s3, p⟩ ⟨hs3, hp⟩
  dsimp only at hs3 hp ⊢
  refine lst_assign rfl rfl ?_
  refine lst_assign rfl rfl ?_
  refine lst_assign rfl rfl ?_
  refine lst_nil ?_
  refine ex_then ?_
  refine cod_seq ?_
  refine cod_region ?_
  refine lst_move rfl rfl ?_
  refine lst_move rfl rfl ?_
  refine lst_move rfl rfl ?_
  refine lst_fn (X := List Nat × Nat × Nat × Option Addr × Nat) (vs := [_, _, _]) (p := fun y => ChS ags p (m1) y.1 y.2.1 y.2.2.1) (val := fun y => .tuple #[.slice y.2.2.2.1 y.1.length y.2.2.2.2, .int .i64 (y.2.1 : Int), .int .i64 (y.2.2.1 : Int)]) (rs := fun y => [.row 3 1 y.2.2.2.1 y.1.length y.2.2.2.2 (ints y.1)]) rfl rfl F.ent35 (fun a w ha => (Cheapest_s aA ac ags hok (m1) p (by omega) hp w (row_reads ha (cells := Ag.cells) (size := 5) (e := 24) (c := ac) (n := ags.length) (fun _ => rfl) (InR.mem (A := aA)) rfl)).mono (fun e w' h => by obtain ⟨W, k, E, A', c', h1, h2, h3⟩ := h; exact ⟨(W, k, E, A', c'), h1, h2, h3⟩)) ?_
  rintro ⟨W, kc, E, wA, wc⟩ hch
  dsimp only [List.cons_append, List.nil_append] at hch ⊢
  refine lst_move rfl rfl ?_
  refine lst_extract rfl rfl rfl ?_
  refine lst_extract rfl rfl rfl ?_
  refine lst_extract rfl rfl rfl ?_
  refine lst_assign rfl rfl ?_
  refine lst_assign rfl rfl ?_
  refine lst_assign rfl rfl ?_
  refine lst_nil ?_
  refine ex_then ?_
  refine cod_seq ?_
  refine cod_seq ?_
  rcases hch.err with rfl | rfl
  · skip
    refine cod_region ?_
    obtain ⟨hopt, ⟨e0, hfe, hne⟩, hcost, hwd, hl63⟩ := hch.yes rfl
    have he64 := followN_lt hok W m1 e0 (by omega) hfe
    have hkb := (hch.bound hok).1
    refine lst_move rfl rfl ?_
    refine lst_int rfl rfl rfl bin_neq ?_
    refine lst_move rfl rfl ?_
    refine lst_off rfl rfl rfl ?_
    refine lst_off rfl rfl rfl ?_
    refine lst_pick_false rfl rfl rfl ?_
    refine lst_move rfl rfl ?_
    refine lst_on rfl rfl ?_
    refine lst_move rfl rfl ?_
    refine lst_on rfl rfl ?_
    refine lst_len rfl rfl Tryd.underlying25 ?_
    refine lst_on rfl rfl ?_
    refine lst_int (v := .bool false) rfl rfl rfl (fun w => by rw [bin_gtr, decide_eq_false (by omega)]) ?_
    refine lst_pick_false rfl rfl rfl ?_
    refine lst_nil ?_
    refine ex_then ?_
    refine cod_cond_false rfl ?_
    refine cod_skip ?_
    refine ex_then ?_
    refine cod_seq ?_
    refine cod_region ?_
    refine lst_move rfl rfl ?_
    refine lst_move rfl rfl ?_
    refine lst_move rfl rfl ?_
    refine lst_fn0 (v := .tuple #[.int .i64 (e0 : Int), .bool true]) (vs := [_, _, _]) rfl rfl F.ent36 (fun a w ha => (follows_c aA wA ac wc m1 ags W hok (by omega) (by first | (simp; done) | omega) w (row_reads ha (cells := Ag.cells) (size := 5) (e := 24) (c := ac) (n := ags.length) (fun _ => rfl) (InR.mem (A := aA)) rfl) (row_reads ha (cells := ncell) (size := 1) (e := 3) (c := wc) (n := W.length) (fun _ => rfl) (by rw [← ints_flat]; exact List.mem_cons.2 (.inl rfl)) rfl)).mono (fun e w' h => ⟨h.1.trans (by rw [hfe]; rfl), h.2⟩)) ?_
    refine lst_move rfl rfl ?_
    refine lst_extract rfl rfl rfl ?_
    refine lst_extract rfl rfl rfl ?_
    refine lst_assign rfl rfl ?_
    refine lst_assign rfl rfl ?_
    refine lst_nil ?_
    refine ex_then ?_
    refine cod_seq ?_
    refine cod_region ?_
    refine lst_assign rfl rfl ?_
    refine lst_nil ?_
    refine ex_then ?_
    refine cod_seq ?_
    refine cod_seq ?_
    refine cod_region ?_
    refine lst_assign rfl rfl ?_
    refine lst_nil ?_
    refine ex_then ?_
    refine cod_block ?_
    refine cod_loop' (G := Nat) (fun g => g ≤ W.length) (fun g => W.length - g) (fun g => [(4, .slice aA ags.length ac), (5, .int .i64 (m1 : Int)), (6, .int .i64 (p : Int)), (7, .slice wA W.length wc), (8, .int .i64 (kc : Int)), (9, .int .i64 ((0 : Nat) : Int)), (10, .int .i64 (e0 : Int)), (11, .bool true), (12, .int .i64 ((costN ags (W.take g) : Nat) : Int)), (13, .int .i64 (g : Int))]) (fun g => .row 3 1 wA W.length wc (ints W) :: .row 24 5 aA ags.length ac (ags.flatMap Ag.cells) :: []) (0) (Nat.zero_le _) (by repeat (first | exact Sub.nil _ | refine Sub.cons rfl ?_)) (by repeat (first | exact Pck.nil _ | exact Pck.refl _ | (apply Pck.cons; focus ((repeat (first | exact Rem.here _ | apply Rem.there)); done)) | refine Pck.skip _ ?_)) ?_
    rintro i hil
    try dsimp only at hil ⊢
    refine cod_seq ?_
    refine cod_seq ?_
    refine cod_region ?_
    refine lst_cut1 7 61 (.bool (decide ((i : Int) < (W.length : Int)))) ?_ ?_
    · skip
      refine lst_move rfl rfl ?_
      refine lst_move rfl rfl ?_
      refine lst_len rfl rfl Tryd.underlying25 ?_
      refine lst_int rfl rfl rfl bin_lss ?_
      refine lst_move rfl rfl ?_
      refine lst_split_bool (t := 59) rfl (fun hg59 => ?_) (fun hg59 => ?_)
      · skip
        refine lst_on rfl rfl ?_
        refine lst_move rfl rfl ?_
        refine lst_pick_true rfl rfl rfl ?_
        refine lst_nil ?_
        exact ex_cut (.cons (by simp_all [look]) (by repeat (first | exact Sub.nil _ | refine Sub.cons rfl ?_))) (by repeat (first | exact List.Sublist.refl _ | exact List.nil_sublist _ | refine List.Sublist.cons_cons _ ?_ | refine List.Sublist.cons _ ?_))
      · skip
        refine lst_off rfl rfl rfl ?_
        refine lst_pick_false rfl rfl rfl ?_
        refine lst_nil ?_
        exact ex_cut (.cons (by simp_all [look]) (by repeat (first | exact Sub.nil _ | refine Sub.cons rfl ?_))) (by repeat (first | exact List.Sublist.refl _ | exact List.nil_sublist _ | refine List.Sublist.cons_cons _ ?_ | refine List.Sublist.cons _ ?_))
    refine lst_nil ?_
    refine ex_then ?_
    refine cod_cond_bool rfl (fun hc1 => ?_) (fun hc1 => ?_)
    · skip
      have hi' : i < W.length := by have := of_decide_eq_true hc1; omega
      refine cod_know (φ := ∃ g, wA = some ⟨g, 0, none⟩) (fun a w ha => row_some (ha.own _ (InR.mem (A := wA))) (by omega)) (fun hgW => ?_)
      obtain ⟨gW, rfl⟩ := hgW
      obtain ⟨x, hx⟩ : ∃ x, W[i]? = some x := ⟨_, List.getElem?_eq_getElem hi'⟩
      have hxl : x < ags.length := hwd x (List.mem_of_getElem? hx)
      refine cod_know (φ := ∃ g, aA = some ⟨g, 0, none⟩) (fun a w ha => row_some (ha.own _ (InR.mem (A := aA))) (by omega)) (fun hgA => ?_)
      obtain ⟨gA, rfl⟩ := hgA
      have hxg : ags[x]? = some (ags.getD x default) := by rw [List.getD_eq_getElem?_getD, List.getElem?_eq_getElem hxl]; rfl
      have hx9 := (agd_ok hok hxl).cost.2
      refine cod_skip ?_
      refine ex_then ?_
      refine cod_seq ?_
      refine cod_block ?_
      refine cod_region ?_
      refine lst_move rfl rfl ?_
      refine lst_move rfl rfl ?_
      refine lst_move rfl rfl ?_
      refine lst_move rfl rfl ?_
      refine lst_index (j := i) rfl rfl rfl Tryd.underlying25 F.ti3 rfl hi' ?_
      refine lst_load_at (v := .int .i64 (x : Int)) rfl rfl F.one3 (fun a w ha => row_cell ha (InR.mem (A := some ⟨gW, 0, none⟩)) rfl (by rw [Nat.zero_add]; exact ints_get hx)) ?_
      refine lst_index (j := x) rfl rfl rfl Tryd.underlying22 F.ti24 rfl hxl ?_
      refine lst_field rfl rfl F.fi24_4 F.ti3 ?_
      refine lst_load_at (v := .int .i64 ((ags.getD x default).cost : Int)) rfl rfl F.one3 (fun a w ha => row_cell ha (InR.mem (A := (some ⟨gA, 0, none⟩))) rfl (by rw [Nat.zero_add]; exact flatMap_get (cells := Ag.cells) (size := 5) (fun _ => rfl) ags x (ags.getD x default) hxg 4 _ rfl)) ?_
      refine lst_int rfl rfl rfl (fun w => bin_add w (show IntKind.i64.wrap (((costN ags (W.take i) : Nat) : Int) + ((ags.getD x default).cost : Int)) = ((costN ags (W.take (i + 1)) : Nat) : Int) from by rw [costN_take hx, wrap_i64' _ (by omega) (by have := costN_take_le hok W i hl63; omega)]; omega)) ?_
      refine lst_assign rfl rfl ?_
      refine lst_nil ?_
      refine ex_block_normal ?_
      refine ex_then ?_
      refine cod_region ?_
      refine lst_move rfl rfl ?_
      refine lst_int rfl rfl rfl (fun w => bin_add w (wrap_i64' _ (by omega) (by omega))) ?_
      refine lst_assign rfl rfl ?_
      refine lst_nil ?_
      refine ex_round' (i + 1) (by omega) (by (try dsimp only); omega) (by repeat (first | exact Sub.nil _ | refine Sub.cons rfl ?_)) (by repeat (first | exact Pck.nil _ | exact Pck.refl _ | (apply Pck.cons; focus ((repeat (first | exact Rem.here _ | apply Rem.there)); done)) | refine Pck.skip _ ?_))
    · skip
      obtain rfl : i = W.length := by have := of_decide_eq_false hc1; omega
      rw [List.take_length, hcost]
      refine cod_exit ?_
      refine ex_then_exit ?_
      refine ex_then_exit ?_
      refine ex_block_exit ?_
      refine ex_then ?_
      refine cod_seq ?_
      refine cod_seq ?_
      refine cod_region ?_
      refine lst_move rfl rfl ?_
      refine lst_int rfl rfl rfl bin_eql ?_
      refine lst_move rfl rfl ?_
      refine lst_on rfl rfl ?_
      refine lst_move rfl rfl ?_
      refine lst_on rfl rfl ?_
      refine lst_not rfl rfl ?_
      refine lst_on rfl rfl ?_
      refine lst_move rfl rfl ?_
      refine lst_on rfl rfl ?_
      refine lst_move rfl rfl ?_
      refine lst_on rfl rfl ?_
      refine lst_move rfl rfl ?_
      refine lst_on rfl rfl ?_
      refine lst_fn0 (v := .bool true) (vs := [_, _]) rfl rfl F.ent37 (fun a w ha => (Clear_c e0 p he64 hp w).mono (fun e w' h => ⟨h.1.trans (by rw [hne]; rfl), h.2⟩)) ?_
      refine lst_on rfl rfl ?_
      refine lst_not rfl rfl ?_
      refine lst_on rfl rfl ?_
      refine lst_pick_false rfl rfl rfl ?_
      refine lst_on rfl rfl ?_
      refine lst_move rfl rfl ?_
      refine lst_on rfl rfl ?_
      refine lst_move rfl rfl ?_
      refine lst_on rfl rfl ?_
      refine lst_move rfl rfl ?_
      refine lst_on rfl rfl ?_
      refine lst_int (v := .bool false) rfl rfl rfl (fun w => by rw [bin_neq]; simp) ?_
      refine lst_on rfl rfl ?_
      refine lst_pick_false rfl rfl rfl ?_
      refine lst_pick_true rfl rfl rfl ?_
      refine lst_move rfl rfl ?_
      refine lst_on rfl rfl ?_
      refine lst_move rfl rfl ?_
      refine lst_on rfl rfl ?_
      refine lst_int rfl rfl rfl bin_neq ?_
      refine lst_on rfl rfl ?_
      refine lst_move rfl rfl ?_
      refine lst_off rfl rfl rfl ?_
      refine lst_off rfl rfl rfl ?_
      refine lst_off rfl rfl rfl ?_
      refine lst_off rfl rfl rfl ?_
      refine lst_off rfl rfl rfl ?_
      refine lst_on rfl rfl ?_
      refine lst_pick_false rfl rfl rfl ?_
      refine lst_pick_false rfl rfl rfl ?_
      refine lst_nil ?_
      refine ex_then ?_
      refine cod_cond_false rfl ?_
      refine cod_skip ?_
      refine ex_then ?_
      refine cod_seq ?_
      refine cod_seq ?_
      refine cod_region ?_
      refine lst_move rfl rfl ?_
      refine lst_move rfl rfl ?_
      refine lst_fn0 (vs := [_, _]) rfl rfl F.ent37 (fun a w ha => Clear_c m1 p (by omega) hp w) ?_
      refine lst_nil ?_
      refine ex_then ?_
      refine cod_cond_bool rfl (fun hc3 => ?_) (fun hc3 => ?_)
      · skip
        obtain ⟨_, rfl, hW0⟩ := hch.clear (of_decide_eq_true hc3)
        subst hW0
        refine cod_seq ?_
        refine cod_region ?_
        refine lst_move rfl rfl ?_
        refine lst_int rfl rfl rfl bin_eql ?_
        refine lst_move rfl rfl ?_
        refine lst_on rfl rfl ?_
        refine lst_move rfl rfl ?_
        refine lst_on rfl rfl ?_
        refine lst_int rfl rfl rfl bin_eql ?_
        refine lst_pick_true rfl rfl rfl ?_
        refine lst_move rfl rfl ?_
        refine lst_on rfl rfl ?_
        refine lst_move rfl rfl ?_
        refine lst_on rfl rfl ?_
        refine lst_len rfl rfl Tryd.underlying25 ?_
        refine lst_on rfl rfl ?_
        refine lst_int rfl rfl rfl bin_eql ?_
        refine lst_pick_true rfl rfl rfl ?_
        refine lst_move rfl rfl ?_
        refine lst_on rfl rfl ?_
        refine lst_fn0 (vs := []) rfl rfl F.ent21 (fun a w ha => fined_c w) ?_
        refine lst_pick_true rfl rfl rfl ?_
        refine lst_assign rfl rfl ?_
        refine lst_nil ?_
        refine ex_then ?_
        refine cod_ret ?_
        refine ex_then_ret ?_
        exact ex_ret rfl (fun a w ha => res_one rfl rfl ha) (fun a w ha => ⟨rfl, ha.grown (List.nil_sublist _)⟩)
      · skip
        refine cod_skip ?_
        refine ex_then ?_
        refine cod_seq ?_
        refine cod_region ?_
        refine lst_assign rfl rfl ?_
        refine lst_nil ?_
        refine ex_then ?_
        refine cod_seq ?_
        refine cod_seq ?_
        refine cod_region ?_
        refine lst_assign rfl rfl ?_
        refine lst_nil ?_
        refine ex_then ?_
        refine cod_block ?_
        refine cod_loop' (G := Nat × Bool) (fun g => g.1 ≤ ags.length ∧ Eqv ags p m1 kc g.1 g.2) (fun g => ags.length - g.1) (fun g => [(4, .slice aA ags.length ac), (5, .int .i64 (m1 : Int)), (6, .int .i64 (p : Int)), (8, .int .i64 (kc : Int)), (9, .int .i64 ((0 : Nat) : Int)), (14, .bool g.2), (15, .int .i64 (g.1 : Int))]) (fun g => .row 24 5 aA ags.length ac (ags.flatMap Ag.cells) :: []) (0, false) ⟨Nat.zero_le _, Eqv.zero⟩ (by repeat (first | exact Sub.nil _ | refine Sub.cons rfl ?_)) (by repeat (first | exact Pck.nil _ | exact Pck.refl _ | (apply Pck.cons; focus ((repeat (first | exact Rem.here _ | apply Rem.there)); done)) | refine Pck.skip _ ?_)) ?_
        rintro ⟨i, b⟩ ⟨hil, hI⟩
        dsimp only at hil hI ⊢
        refine cod_seq ?_
        refine cod_seq ?_
        refine cod_region ?_
        refine lst_move rfl rfl ?_
        refine lst_move rfl rfl ?_
        refine lst_len rfl rfl Tryd.underlying22 ?_
        refine lst_int rfl rfl rfl bin_lss ?_
        refine lst_nil ?_
        refine ex_then ?_
        refine cod_cond_dec rfl (fun hc4 => ?_) (fun hc4 => ?_)
        · skip
          have hi' : i < ags.length := by omega
          refine cod_know (φ := ∃ g, aA = some ⟨g, 0, none⟩) (fun a w ha => row_some (ha.own _ (InR.mem (A := aA))) (by omega)) (fun hgA => ?_)
          obtain ⟨gA, rfl⟩ := hgA
          have hig : ags[i]? = some (ags.getD i default) := by rw [List.getD_eq_getElem?_getD, List.getElem?_eq_getElem hi']; rfl
          have hi9 := (agd_ok hok hi').cost.2
          have hip := putN_lt (agd_ok hok hi') (show m1 < 64 by omega)
          refine cod_skip ?_
          refine ex_then ?_
          refine cod_seq ?_
          refine cod_block ?_
          refine cod_seq ?_
          refine cod_region ?_
          refine lst_move rfl rfl ?_
          refine lst_move rfl rfl ?_
          refine lst_move rfl rfl ?_
          refine lst_lit (vs := [(0, _)]) rfl rfl Tryd.underlying25 F.ti3 rfl rfl rfl ?_
          intro b129
          refine lst_fn0 (v := .tuple #[.int .i64 ((if mayN (ags.getD i default) m1 = true then putN (ags.getD i default) m1 else 0 : Nat) : Int), .bool (mayN (ags.getD i default) m1)]) (vs := [_, _, _]) rfl rfl F.ent36 (fun a w ha => (follows_c (some ⟨gA, 0, none⟩) (some ⟨b129, 0, none⟩) ac 1 m1 ags [i] hok (by omega) (by simp) w (row_reads ha (cells := Ag.cells) (size := 5) (e := 24) (c := ac) (n := ags.length) (fun _ => rfl) (InR.mem (A := (some ⟨gA, 0, none⟩))) rfl) (blk_reads ha (cells := ncell) (size := 1) (b := b129) (l := [i]) (fun _ => rfl) rfl)).mono (fun e w' h => ⟨h.1.trans (by rw [follow_one1 hi', follow_one2 hi']), h.2⟩)) ?_
          refine lst_move rfl rfl ?_
          refine lst_extract rfl rfl rfl ?_
          refine lst_extract rfl rfl rfl ?_
          refine lst_assign rfl rfl ?_
          refine lst_assign rfl rfl ?_
          refine lst_nil ?_
          refine ex_then ?_
          refine cod_seq ?_
          refine cod_seq ?_
          refine cod_region ?_
          refine lst_move rfl rfl ?_
          refine lst_not rfl rfl ?_
          refine lst_nil ?_
          refine ex_then ?_
          refine cod_cond_bool rfl (fun hc5 => ?_) (fun hc5 => ?_)
          · skip
            have hmy : mayN (ags.getD i default) m1 = false := by simpa using hc5
            refine cod_exit ?_
            refine ex_then_exit ?_
            refine ex_block_exit ?_
            refine ex_then ?_
            refine cod_region ?_
            refine lst_move rfl rfl ?_
            refine lst_int rfl rfl rfl (fun w => bin_add w (wrap_i64' _ (by omega) (by have := hok.1; omega))) ?_
            refine lst_assign rfl rfl ?_
            refine lst_nil ?_
            first
              | exact ex_round' (i + 1, b) ⟨by omega, hI.skip (fun h => by rw [hmy] at h; cases h)⟩ (by (try dsimp only); omega) (by repeat (first | exact Sub.nil _ | refine Sub.cons rfl ?_)) (by repeat (first | exact Pck.nil _ | exact Pck.refl _ | (apply Pck.cons; focus ((repeat (first | exact Rem.here _ | apply Rem.there)); done)) | refine Pck.skip _ ?_))
              | exact ex_round' (i + 1) (by omega) (by (try dsimp only); omega) (by repeat (first | exact Sub.nil _ | refine Sub.cons rfl ?_)) (by repeat (first | exact Pck.nil _ | exact Pck.refl _ | (apply Pck.cons; focus ((repeat (first | exact Rem.here _ | apply Rem.there)); done)) | refine Pck.skip _ ?_))
          · skip
            have hmy : mayN (ags.getD i default) m1 = true := by simpa using hc5
            rw [if_pos hmy]
            refine cod_skip ?_
            refine ex_then ?_
            refine cod_seq ?_
            refine cod_region ?_
            refine lst_move rfl rfl ?_
            refine lst_move rfl rfl ?_
            refine lst_move rfl rfl ?_
            refine lst_fn (X := List Nat × Nat × Nat × Option Addr × Nat) (vs := [_, _, _]) (p := fun y => ChS ags p (putN (ags.getD i default) m1) y.1 y.2.1 y.2.2.1) (val := fun y => .tuple #[.slice y.2.2.2.1 y.1.length y.2.2.2.2, .int .i64 (y.2.1 : Int), .int .i64 (y.2.2.1 : Int)]) (rs := fun y => [.row 3 1 y.2.2.2.1 y.1.length y.2.2.2.2 (ints y.1)]) rfl rfl F.ent35 (fun a w ha => (Cheapest_s (some ⟨gA, 0, none⟩) ac ags hok (putN (ags.getD i default) m1) p hip hp w (row_reads ha (cells := Ag.cells) (size := 5) (e := 24) (c := ac) (n := ags.length) (fun _ => rfl) (InR.mem (A := (some ⟨gA, 0, none⟩))) rfl)).mono (fun e w' h => by obtain ⟨W, k, E, A', c', h1, h2, h3⟩ := h; exact ⟨(W, k, E, A', c'), h1, h2, h3⟩)) ?_
            rintro ⟨W2, k2, E2, wA2, wc2⟩ hch2
            dsimp only [List.cons_append, List.nil_append] at hch2 ⊢
            refine lst_move rfl rfl ?_
            refine lst_extract rfl rfl rfl ?_
            refine lst_extract rfl rfl rfl ?_
            refine lst_extract rfl rfl rfl ?_
            refine lst_assign rfl rfl ?_
            refine lst_assign rfl rfl ?_
            refine lst_assign rfl rfl ?_
            refine lst_nil ?_
            refine ex_then ?_
            refine cod_seq ?_
            refine cod_seq ?_
            rcases hch2.err with rfl | rfl
            · skip
              refine cod_region ?_
              obtain ⟨_, hle⟩ := hch.step hi' hmy hch2 rfl
              have hb2 := (hch2.bound hok).1
              refine lst_move rfl rfl ?_
              refine lst_int rfl rfl rfl bin_neq ?_
              refine lst_move rfl rfl ?_
              refine lst_off rfl rfl rfl ?_
              refine lst_off rfl rfl rfl ?_
              refine lst_pick_false rfl rfl rfl ?_
              refine lst_move rfl rfl ?_
              refine lst_on rfl rfl ?_
              refine lst_move rfl rfl ?_
              refine lst_on rfl rfl ?_
              refine lst_int rfl rfl rfl bin_eql ?_
              refine lst_on rfl rfl ?_
              refine lst_move rfl rfl ?_
              refine lst_on rfl rfl ?_
              refine lst_move rfl rfl ?_
              refine lst_on rfl rfl ?_
              refine lst_int rfl rfl rfl bin_neq ?_
              refine lst_on rfl rfl ?_
              refine lst_move rfl rfl ?_
              refine lst_on rfl rfl ?_
              refine lst_move rfl rfl ?_
              refine lst_on rfl rfl ?_
              refine lst_move rfl rfl ?_
              refine lst_on rfl rfl ?_
              refine lst_move rfl rfl ?_
              refine lst_on rfl rfl ?_
              refine lst_index (j := i) rfl rfl rfl Tryd.underlying22 F.ti24 rfl hi' ?_
              refine lst_on rfl rfl ?_
              refine lst_field rfl rfl F.fi24_4 F.ti3 ?_
              refine lst_on rfl rfl ?_
              refine lst_load_at (v := .int .i64 ((ags.getD i default).cost : Int)) rfl rfl F.one3 (fun a w ha => row_cell ha (InR.mem (A := (some ⟨gA, 0, none⟩))) rfl (by rw [Nat.zero_add]; exact flatMap_get (cells := Ag.cells) (size := 5) (fun _ => rfl) ags i (ags.getD i default) hig 4 _ rfl)) ?_
              refine lst_on rfl rfl ?_
              refine lst_int rfl rfl rfl (fun w => bin_add w (wrap_i64' _ (by omega) (by omega))) ?_
              refine lst_on rfl rfl ?_
              refine lst_move rfl rfl ?_
              refine lst_on rfl rfl ?_
              refine lst_int (v := .bool false) rfl rfl rfl (fun w => by rw [bin_lss, decide_eq_false (by omega)]) ?_
              refine lst_on rfl rfl ?_
              refine lst_pick_false rfl rfl rfl ?_
              refine lst_on rfl rfl ?_
              refine lst_pick_true rfl rfl rfl ?_
              refine lst_pick_false rfl rfl rfl ?_
              refine lst_nil ?_
              refine ex_then ?_
              refine cod_cond_false rfl ?_
              refine cod_skip ?_
              refine ex_then ?_
              refine cod_region ?_
              refine lst_cut1 16 183 (.bool (b || decide (((k2 : Int) + ((ags.getD i default).cost : Int)) = (kc : Int)))) ?_ ?_
              · skip
                refine lst_move rfl rfl ?_
                refine lst_move rfl rfl ?_
                refine lst_split_bool (t := 169) rfl (fun hg169 => ?_) (fun hg169 => ?_)
                · skip
                  refine lst_off rfl rfl rfl ?_
                  refine lst_off rfl rfl rfl ?_
                  refine lst_off rfl rfl rfl ?_
                  refine lst_offu rfl rfl rfl ?_
                  refine lst_offu rfl rfl rfl ?_
                  refine lst_offu rfl rfl rfl ?_
                  refine lst_offu rfl rfl rfl ?_
                  refine lst_offu rfl rfl rfl ?_
                  refine lst_offu rfl rfl rfl ?_
                  refine lst_offu rfl rfl rfl ?_
                  refine lst_offu rfl rfl rfl ?_
                  refine lst_offu rfl rfl rfl ?_
                  refine lst_off rfl rfl rfl ?_
                  refine lst_pick_true rfl rfl rfl ?_
                  refine lst_nil ?_
                  exact ex_cut (.cons (by cases b <;> simp_all [look]) (by repeat (first | exact Sub.nil _ | refine Sub.cons rfl ?_))) (by repeat (first | exact List.Sublist.refl _ | exact List.nil_sublist _ | refine List.Sublist.cons_cons _ ?_ | refine List.Sublist.cons _ ?_))
                · skip
                  refine lst_on rfl rfl ?_
                  refine lst_move rfl rfl ?_
                  refine lst_on rfl rfl ?_
                  refine lst_int rfl rfl rfl bin_eql ?_
                  refine lst_on rfl rfl ?_
                  refine lst_move rfl rfl ?_
                  refine lst_on rfl rfl ?_
                  refine lst_move rfl rfl ?_
                  refine lst_on rfl rfl ?_
                  refine lst_move rfl rfl ?_
                  refine lst_on rfl rfl ?_
                  refine lst_move rfl rfl ?_
                  refine lst_on rfl rfl ?_
                  refine lst_index (j := i) rfl rfl rfl Tryd.underlying22 F.ti24 rfl hi' ?_
                  refine lst_on rfl rfl ?_
                  refine lst_field rfl rfl F.fi24_4 F.ti3 ?_
                  refine lst_on rfl rfl ?_
                  refine lst_load_at (v := .int .i64 ((ags.getD i default).cost : Int)) rfl rfl F.one3 (fun a w ha => row_cell ha (InR.mem (A := (some ⟨gA, 0, none⟩))) rfl (by rw [Nat.zero_add]; exact flatMap_get (cells := Ag.cells) (size := 5) (fun _ => rfl) ags i (ags.getD i default) hig 4 _ rfl)) ?_
                  refine lst_on rfl rfl ?_
                  refine lst_int rfl rfl rfl (fun w => bin_add w (wrap_i64' _ (by omega) (by omega))) ?_
                  refine lst_on rfl rfl ?_
                  refine lst_move rfl rfl ?_
                  refine lst_on rfl rfl ?_
                  refine lst_int rfl rfl rfl bin_eql ?_
                  refine lst_on rfl rfl ?_
                  refine lst_pick_true rfl rfl rfl ?_
                  refine lst_pick_false rfl rfl rfl ?_
                  refine lst_nil ?_
                  exact ex_cut (.cons (by cases b <;> simp_all [look]) (by repeat (first | exact Sub.nil _ | refine Sub.cons rfl ?_))) (by repeat (first | exact List.Sublist.refl _ | exact List.nil_sublist _ | refine List.Sublist.cons_cons _ ?_ | refine List.Sublist.cons _ ?_))
              refine lst_assign rfl rfl ?_
              refine lst_nil ?_
              refine ex_block_normal ?_
              refine ex_then ?_
              refine cod_region ?_
              refine lst_move rfl rfl ?_
              refine lst_int rfl rfl rfl (fun w => bin_add w (wrap_i64' _ (by omega) (by have := hok.1; omega))) ?_
              refine lst_assign rfl rfl ?_
              refine lst_nil ?_
              refine ex_round' (i + 1, (b || decide (((k2 : Int) + ((ags.getD i default).cost : Int)) = (kc : Int)))) ⟨by omega, hI.hit hmy (hch2.yes rfl).1⟩ (by (try dsimp only); omega) (by repeat (first | exact Sub.nil _ | refine Sub.cons rfl ?_)) (by repeat (first | exact Pck.nil _ | exact Pck.refl _ | (apply Pck.cons; focus ((repeat (first | exact Rem.here _ | apply Rem.there)); done)) | refine Pck.skip _ ?_))
            · skip
              refine cod_region ?_
              refine lst_move rfl rfl ?_
              refine lst_int rfl rfl rfl bin_neq ?_
              refine lst_move rfl rfl ?_
              refine lst_on rfl rfl ?_
              refine lst_move rfl rfl ?_
              refine lst_on rfl rfl ?_
              refine lst_int rfl rfl rfl bin_neq ?_
              refine lst_pick_true rfl rfl rfl ?_
              refine lst_move rfl rfl ?_
              refine lst_on rfl rfl ?_
              refine lst_move rfl rfl ?_
              refine lst_on rfl rfl ?_
              refine lst_int rfl rfl rfl bin_eql ?_
              refine lst_on rfl rfl ?_
              refine lst_move rfl rfl ?_
              refine lst_off rfl rfl rfl ?_
              refine lst_off rfl rfl rfl ?_
              refine lst_off rfl rfl rfl ?_
              refine lst_offu rfl rfl rfl ?_
              refine lst_offu rfl rfl rfl ?_
              refine lst_offu rfl rfl rfl ?_
              refine lst_offu rfl rfl rfl ?_
              refine lst_offu rfl rfl rfl ?_
              refine lst_offu rfl rfl rfl ?_
              refine lst_offu rfl rfl rfl ?_
              refine lst_offu rfl rfl rfl ?_
              refine lst_offu rfl rfl rfl ?_
              refine lst_off rfl rfl rfl ?_
              refine lst_on rfl rfl ?_
              refine lst_pick_false rfl rfl rfl ?_
              refine lst_pick_false rfl rfl rfl ?_
              refine lst_nil ?_
              refine ex_then ?_
              refine cod_cond_false rfl ?_
              refine cod_skip ?_
              refine ex_then ?_
              refine cod_region ?_
              refine lst_cut1 16 183 (.bool b) ?_ ?_
              · skip
                refine lst_move rfl rfl ?_
                refine lst_move rfl rfl ?_
                refine lst_split_bool (t := 169) rfl (fun hg169 => ?_) (fun hg169 => ?_)
                · skip
                  refine lst_off rfl rfl rfl ?_
                  refine lst_off rfl rfl rfl ?_
                  refine lst_off rfl rfl rfl ?_
                  refine lst_offu rfl rfl rfl ?_
                  refine lst_offu rfl rfl rfl ?_
                  refine lst_offu rfl rfl rfl ?_
                  refine lst_offu rfl rfl rfl ?_
                  refine lst_offu rfl rfl rfl ?_
                  refine lst_offu rfl rfl rfl ?_
                  refine lst_offu rfl rfl rfl ?_
                  refine lst_offu rfl rfl rfl ?_
                  refine lst_offu rfl rfl rfl ?_
                  refine lst_off rfl rfl rfl ?_
                  refine lst_pick_true rfl rfl rfl ?_
                  refine lst_nil ?_
                  exact ex_cut (.cons (by cases b <;> simp_all [look]) (by repeat (first | exact Sub.nil _ | refine Sub.cons rfl ?_))) (by repeat (first | exact List.Sublist.refl _ | exact List.nil_sublist _ | refine List.Sublist.cons_cons _ ?_ | refine List.Sublist.cons _ ?_))
                · skip
                  refine lst_on rfl rfl ?_
                  refine lst_move rfl rfl ?_
                  refine lst_on rfl rfl ?_
                  refine lst_int rfl rfl rfl bin_eql ?_
                  refine lst_on rfl rfl ?_
                  refine lst_move rfl rfl ?_
                  refine lst_off rfl rfl rfl ?_
                  refine lst_off rfl rfl rfl ?_
                  refine lst_off rfl rfl rfl ?_
                  refine lst_off rfl rfl rfl ?_
                  refine lst_off rfl rfl rfl ?_
                  refine lst_off rfl rfl rfl ?_
                  refine lst_off rfl rfl rfl ?_
                  refine lst_off rfl rfl rfl ?_
                  refine lst_off rfl rfl rfl ?_
                  refine lst_on rfl rfl ?_
                  refine lst_pick_false rfl rfl rfl ?_
                  refine lst_pick_false rfl rfl rfl ?_
                  refine lst_nil ?_
                  exact ex_cut (.cons (by cases b <;> simp_all [look]) (by repeat (first | exact Sub.nil _ | refine Sub.cons rfl ?_))) (by repeat (first | exact List.Sublist.refl _ | exact List.nil_sublist _ | refine List.Sublist.cons_cons _ ?_ | refine List.Sublist.cons _ ?_))
              refine lst_assign rfl rfl ?_
              refine lst_nil ?_
              refine ex_block_normal ?_
              refine ex_then ?_
              refine cod_region ?_
              refine lst_move rfl rfl ?_
              refine lst_int rfl rfl rfl (fun w => bin_add w (wrap_i64' _ (by omega) (by have := hok.1; omega))) ?_
              refine lst_assign rfl rfl ?_
              refine lst_nil ?_
              refine ex_round' (i + 1, b) ⟨by omega, hI.skip (fun _ n k ho => (hch2.no (by decide)).2.2.2 n k ho.1)⟩ (by (try dsimp only); omega) (by repeat (first | exact Sub.nil _ | refine Sub.cons rfl ?_)) (by repeat (first | exact Pck.nil _ | exact Pck.refl _ | (apply Pck.cons; focus ((repeat (first | exact Rem.here _ | apply Rem.there)); done)) | refine Pck.skip _ ?_))
        · skip
          obtain rfl : i = ags.length := by omega
          obtain rfl : b = true := hI.2 (by obtain ⟨j, n, m, h1, h2, h3, h4⟩ := hch.some hok (by omega) (of_decide_eq_false hc3); exact ⟨j, h1, h2, n, m, h3, h4⟩)
          refine cod_exit ?_
          refine ex_then_exit ?_
          refine ex_then_exit ?_
          refine ex_block_exit ?_
          refine ex_then ?_
          refine cod_seq ?_
          refine cod_region ?_
          refine lst_move rfl rfl ?_
          refine lst_move rfl rfl ?_
          refine lst_int rfl rfl rfl bin_eql ?_
          refine lst_bin rfl rfl rfl (run_eqb Tryd.underlying4 _ _ _ _) ?_
          refine lst_move rfl rfl ?_
          refine lst_on rfl rfl ?_
          refine lst_fn0 (vs := []) rfl rfl F.ent21 (fun a w ha => fined_c w) ?_
          refine lst_pick_true rfl rfl rfl ?_
          refine lst_assign rfl rfl ?_
          refine lst_nil ?_
          refine ex_then ?_
          refine cod_ret ?_
          exact ex_ret rfl (fun a w ha => res_one rfl rfl ha) (fun a w ha => ⟨rfl, ha.grown (List.nil_sublist _)⟩)
  · skip
    refine cod_region ?_
    obtain ⟨_, rfl, rfl, hnoW⟩ := hch.no (by decide)
    refine lst_move rfl rfl ?_
    refine lst_int rfl rfl rfl bin_neq ?_
    refine lst_move rfl rfl ?_
    refine lst_on rfl rfl ?_
    refine lst_move rfl rfl ?_
    refine lst_on rfl rfl ?_
    refine lst_int rfl rfl rfl bin_neq ?_
    refine lst_pick_true rfl rfl rfl ?_
    refine lst_move rfl rfl ?_
    refine lst_on rfl rfl ?_
    refine lst_move rfl rfl ?_
    refine lst_on rfl rfl ?_
    refine lst_len rfl rfl Tryd.underlying25 ?_
    refine lst_on rfl rfl ?_
    refine lst_int rfl rfl rfl bin_gtr ?_
    refine lst_pick_false rfl rfl rfl ?_
    refine lst_nil ?_
    refine ex_then ?_
    refine cod_cond_false rfl ?_
    refine cod_skip ?_
    refine ex_then ?_
    refine cod_seq ?_
    refine cod_region ?_
    refine lst_move rfl rfl ?_
    refine lst_move rfl rfl ?_
    refine lst_move rfl rfl ?_
    refine lst_fn0 (v := .tuple #[.int .i64 (m1 : Int), .bool true]) (vs := [_, _, _]) rfl rfl F.ent36 (fun a w ha => (follows_c aA wA ac wc m1 ags [] hok (by omega) (by first | (simp; done) | omega) w (row_reads ha (cells := Ag.cells) (size := 5) (e := 24) (c := ac) (n := ags.length) (fun _ => rfl) (InR.mem (A := aA)) rfl) (row_reads ha (cells := ncell) (size := 1) (e := 3) (c := wc) (n := [].length) (fun _ => rfl) (by rw [← ints_flat]; exact List.mem_cons.2 (.inl rfl)) rfl)).mono (fun e w' h => ⟨h.1.trans rfl, h.2⟩)) ?_
    refine lst_move rfl rfl ?_
    refine lst_extract rfl rfl rfl ?_
    refine lst_extract rfl rfl rfl ?_
    refine lst_assign rfl rfl ?_
    refine lst_assign rfl rfl ?_
    refine lst_nil ?_
    refine ex_then ?_
    refine cod_seq ?_
    refine cod_region ?_
    refine lst_assign rfl rfl ?_
    refine lst_nil ?_
    refine ex_then ?_
    refine cod_seq ?_
    refine cod_seq ?_
    refine cod_region ?_
    refine lst_assign rfl rfl ?_
    refine lst_nil ?_
    refine ex_then ?_
    refine cod_block ?_
    refine cod_loop' (G := Nat) (fun g => g = 0) (fun g => 0) (fun g => [(4, .slice aA ags.length ac), (5, .int .i64 (m1 : Int)), (6, .int .i64 (p : Int)), (7, .slice wA ([] : List Nat).length wc), (8, .int .i64 ((0 : Nat) : Int)), (9, .int .i64 ((11 : Nat) : Int)), (10, .int .i64 (m1 : Int)), (11, .bool true), (12, .int .i64 0), (13, .int .i64 0)]) (fun g => .row 24 5 aA ags.length ac (ags.flatMap Ag.cells) :: []) (0) rfl (by repeat (first | exact Sub.nil _ | refine Sub.cons rfl ?_)) (by repeat (first | exact Pck.nil _ | exact Pck.refl _ | (apply Pck.cons; focus ((repeat (first | exact Rem.here _ | apply Rem.there)); done)) | refine Pck.skip _ ?_)) ?_
    rintro i hil
    try dsimp only at hil ⊢
    refine cod_seq ?_
    refine cod_seq ?_
    refine cod_region ?_
    refine lst_move rfl rfl ?_
    refine lst_move rfl rfl ?_
    refine lst_len rfl rfl Tryd.underlying25 ?_
    refine lst_int rfl rfl rfl bin_lss ?_
    refine lst_move rfl rfl ?_
    refine lst_off rfl rfl rfl ?_
    refine lst_pick_false rfl rfl rfl ?_
    refine lst_nil ?_
    refine ex_then ?_
    refine cod_cond_false rfl ?_
    refine cod_exit ?_
    refine ex_then_exit ?_
    refine ex_then_exit ?_
    refine ex_block_exit ?_
    refine ex_then ?_
    refine cod_seq ?_
    refine cod_seq ?_
    refine cod_region ?_
    refine lst_move rfl rfl ?_
    refine lst_int rfl rfl rfl bin_eql ?_
    refine lst_move rfl rfl ?_
    refine lst_off rfl rfl rfl ?_
    refine lst_off rfl rfl rfl ?_
    refine lst_off rfl rfl rfl ?_
    refine lst_offu rfl rfl rfl ?_
    refine lst_offu rfl rfl rfl ?_
    refine lst_offu rfl rfl rfl ?_
    refine lst_offu rfl rfl rfl ?_
    refine lst_off rfl rfl rfl ?_
    refine lst_off rfl rfl rfl ?_
    refine lst_offu rfl rfl rfl ?_
    refine lst_offu rfl rfl rfl ?_
    refine lst_offu rfl rfl rfl ?_
    refine lst_off rfl rfl rfl ?_
    refine lst_pick_false rfl rfl rfl ?_
    refine lst_move rfl rfl ?_
    refine lst_on rfl rfl ?_
    refine lst_move rfl rfl ?_
    refine lst_on rfl rfl ?_
    refine lst_int rfl rfl rfl bin_neq ?_
    refine lst_on rfl rfl ?_
    refine lst_move rfl rfl ?_
    refine lst_on rfl rfl ?_
    refine lst_move rfl rfl ?_
    refine lst_on rfl rfl ?_
    refine lst_len rfl rfl Tryd.underlying25 ?_
    refine lst_on rfl rfl ?_
    refine lst_move rfl rfl ?_
    refine lst_on rfl rfl ?_
    refine lst_int rfl rfl rfl (fun w => bin_add w (wrap_i64' _ (by omega) (by simp))) ?_
    refine lst_on rfl rfl ?_
    refine lst_int rfl rfl rfl bin_neq ?_
    refine lst_on rfl rfl ?_
    refine lst_pick_true rfl rfl rfl ?_
    refine lst_pick_false rfl rfl rfl ?_
    refine lst_nil ?_
    refine ex_then ?_
    refine cod_cond_false rfl ?_
    refine cod_skip ?_
    refine ex_then ?_
    refine cod_seq ?_
    refine cod_seq ?_
    refine cod_region ?_
    refine lst_move rfl rfl ?_
    refine lst_move rfl rfl ?_
    refine lst_fn0 (vs := [_, _]) rfl rfl F.ent37 (fun a w ha => Clear_c m1 p (by omega) hp w) ?_
    refine lst_nil ?_
    refine ex_then ?_
    refine cod_cond_bool rfl (fun hc3 => ?_) (fun hc3 => ?_)
    · skip
      exact absurd (hch.clear (of_decide_eq_true hc3)).1 (by decide) -- done
    · skip
      refine cod_skip ?_
      refine ex_then ?_
      refine cod_seq ?_
      refine cod_region ?_
      refine lst_assign rfl rfl ?_
      refine lst_nil ?_
      refine ex_then ?_
      refine cod_seq ?_
      refine cod_seq ?_
      refine cod_region ?_
      refine lst_assign rfl rfl ?_
      refine lst_nil ?_
      refine ex_then ?_
      refine cod_block ?_
      refine cod_loop' (G := Nat) (fun g => g ≤ ags.length) (fun g => ags.length - g) (fun g => [(4, .slice aA ags.length ac), (5, .int .i64 (m1 : Int)), (6, .int .i64 (p : Int)), (8, .int .i64 ((0 : Nat) : Int)), (9, .int .i64 ((11 : Nat) : Int)), (14, .bool false), (15, .int .i64 (g : Int))]) (fun g => .row 24 5 aA ags.length ac (ags.flatMap Ag.cells) :: []) (0) (Nat.zero_le _) (by repeat (first | exact Sub.nil _ | refine Sub.cons rfl ?_)) (by repeat (first | exact Pck.nil _ | exact Pck.refl _ | (apply Pck.cons; focus ((repeat (first | exact Rem.here _ | apply Rem.there)); done)) | refine Pck.skip _ ?_)) ?_
      rintro i hil
      try dsimp only at hil ⊢
      refine cod_seq ?_
      refine cod_seq ?_
      refine cod_region ?_
      refine lst_move rfl rfl ?_
      refine lst_move rfl rfl ?_
      refine lst_len rfl rfl Tryd.underlying22 ?_
      refine lst_int rfl rfl rfl bin_lss ?_
      refine lst_nil ?_
      refine ex_then ?_
      refine cod_cond_dec rfl (fun hc4 => ?_) (fun hc4 => ?_)
      · skip
        have hi' : i < ags.length := by omega
        refine cod_know (φ := ∃ g, aA = some ⟨g, 0, none⟩) (fun a w ha => row_some (ha.own _ (InR.mem (A := aA))) (by omega)) (fun hgA => ?_)
        obtain ⟨gA, rfl⟩ := hgA
        have hig : ags[i]? = some (ags.getD i default) := by rw [List.getD_eq_getElem?_getD, List.getElem?_eq_getElem hi']; rfl
        have hi9 := (agd_ok hok hi').cost.2
        have hip := putN_lt (agd_ok hok hi') (show m1 < 64 by omega)
        refine cod_skip ?_
        refine ex_then ?_
        refine cod_seq ?_
        refine cod_block ?_
        refine cod_seq ?_
        refine cod_region ?_
        refine lst_move rfl rfl ?_
        refine lst_move rfl rfl ?_
        refine lst_move rfl rfl ?_
        refine lst_lit (vs := [(0, _)]) rfl rfl Tryd.underlying25 F.ti3 rfl rfl rfl ?_
        intro b129
        refine lst_fn0 (v := .tuple #[.int .i64 ((if mayN (ags.getD i default) m1 = true then putN (ags.getD i default) m1 else 0 : Nat) : Int), .bool (mayN (ags.getD i default) m1)]) (vs := [_, _, _]) rfl rfl F.ent36 (fun a w ha => (follows_c (some ⟨gA, 0, none⟩) (some ⟨b129, 0, none⟩) ac 1 m1 ags [i] hok (by omega) (by simp) w (row_reads ha (cells := Ag.cells) (size := 5) (e := 24) (c := ac) (n := ags.length) (fun _ => rfl) (InR.mem (A := (some ⟨gA, 0, none⟩))) rfl) (blk_reads ha (cells := ncell) (size := 1) (b := b129) (l := [i]) (fun _ => rfl) rfl)).mono (fun e w' h => ⟨h.1.trans (by rw [follow_one1 hi', follow_one2 hi']), h.2⟩)) ?_
        refine lst_move rfl rfl ?_
        refine lst_extract rfl rfl rfl ?_
        refine lst_extract rfl rfl rfl ?_
        refine lst_assign rfl rfl ?_
        refine lst_assign rfl rfl ?_
        refine lst_nil ?_
        refine ex_then ?_
        refine cod_seq ?_
        refine cod_seq ?_
        refine cod_region ?_
        refine lst_move rfl rfl ?_
        refine lst_not rfl rfl ?_
        refine lst_nil ?_
        refine ex_then ?_
        refine cod_cond_bool rfl (fun hc5 => ?_) (fun hc5 => ?_)
        · skip
          have hmy : mayN (ags.getD i default) m1 = false := by simpa using hc5
          refine cod_exit ?_
          refine ex_then_exit ?_
          refine ex_block_exit ?_
          refine ex_then ?_
          refine cod_region ?_
          refine lst_move rfl rfl ?_
          refine lst_int rfl rfl rfl (fun w => bin_add w (wrap_i64' _ (by omega) (by have := hok.1; omega))) ?_
          refine lst_assign rfl rfl ?_
          refine lst_nil ?_
          first
            | exact ex_round' (i + 1, b) ⟨by omega, hI.skip (fun h => by rw [hmy] at h; cases h)⟩ (by (try dsimp only); omega) (by repeat (first | exact Sub.nil _ | refine Sub.cons rfl ?_)) (by repeat (first | exact Pck.nil _ | exact Pck.refl _ | (apply Pck.cons; focus ((repeat (first | exact Rem.here _ | apply Rem.there)); done)) | refine Pck.skip _ ?_))
            | exact ex_round' (i + 1) (by omega) (by (try dsimp only); omega) (by repeat (first | exact Sub.nil _ | refine Sub.cons rfl ?_)) (by repeat (first | exact Pck.nil _ | exact Pck.refl _ | (apply Pck.cons; focus ((repeat (first | exact Rem.here _ | apply Rem.there)); done)) | refine Pck.skip _ ?_))
        · skip
          have hmy : mayN (ags.getD i default) m1 = true := by simpa using hc5
          rw [if_pos hmy]
          refine cod_skip ?_
          refine ex_then ?_
          refine cod_seq ?_
          refine cod_region ?_
          refine lst_move rfl rfl ?_
          refine lst_move rfl rfl ?_
          refine lst_move rfl rfl ?_
          refine lst_fn (X := List Nat × Nat × Nat × Option Addr × Nat) (vs := [_, _, _]) (p := fun y => ChS ags p (putN (ags.getD i default) m1) y.1 y.2.1 y.2.2.1) (val := fun y => .tuple #[.slice y.2.2.2.1 y.1.length y.2.2.2.2, .int .i64 (y.2.1 : Int), .int .i64 (y.2.2.1 : Int)]) (rs := fun y => [.row 3 1 y.2.2.2.1 y.1.length y.2.2.2.2 (ints y.1)]) rfl rfl F.ent35 (fun a w ha => (Cheapest_s (some ⟨gA, 0, none⟩) ac ags hok (putN (ags.getD i default) m1) p hip hp w (row_reads ha (cells := Ag.cells) (size := 5) (e := 24) (c := ac) (n := ags.length) (fun _ => rfl) (InR.mem (A := (some ⟨gA, 0, none⟩))) rfl)).mono (fun e w' h => by obtain ⟨W, k, E, A', c', h1, h2, h3⟩ := h; exact ⟨(W, k, E, A', c'), h1, h2, h3⟩)) ?_
          rintro ⟨W2, k2, E2, wA2, wc2⟩ hch2
          dsimp only [List.cons_append, List.nil_append] at hch2 ⊢
          obtain rfl : E2 = 11 := by
            rcases hch2.err with h | h
            · exact absurd (hch.step hi' hmy hch2 h).1 (by decide)
            · exact h
          refine lst_move rfl rfl ?_
          refine lst_extract rfl rfl rfl ?_
          refine lst_extract rfl rfl rfl ?_
          refine lst_extract rfl rfl rfl ?_
          refine lst_assign rfl rfl ?_
          refine lst_assign rfl rfl ?_
          refine lst_assign rfl rfl ?_
          refine lst_nil ?_
          refine ex_then ?_
          refine cod_seq ?_
          refine cod_seq ?_
          refine cod_region ?_
          refine lst_move rfl rfl ?_
          refine lst_int rfl rfl rfl bin_neq ?_
          refine lst_move rfl rfl ?_
          refine lst_on rfl rfl ?_
          refine lst_move rfl rfl ?_
          refine lst_on rfl rfl ?_
          refine lst_int rfl rfl rfl bin_neq ?_
          refine lst_pick_true rfl rfl rfl ?_
          refine lst_move rfl rfl ?_
          refine lst_on rfl rfl ?_
          refine lst_move rfl rfl ?_
          refine lst_on rfl rfl ?_
          refine lst_int rfl rfl rfl bin_eql ?_
          refine lst_on rfl rfl ?_
          refine lst_move rfl rfl ?_
          refine lst_off rfl rfl rfl ?_
          refine lst_off rfl rfl rfl ?_
          refine lst_off rfl rfl rfl ?_
          refine lst_offu rfl rfl rfl ?_
          refine lst_offu rfl rfl rfl ?_
          refine lst_offu rfl rfl rfl ?_
          refine lst_offu rfl rfl rfl ?_
          refine lst_offu rfl rfl rfl ?_
          refine lst_offu rfl rfl rfl ?_
          refine lst_offu rfl rfl rfl ?_
          refine lst_offu rfl rfl rfl ?_
          refine lst_offu rfl rfl rfl ?_
          refine lst_off rfl rfl rfl ?_
          refine lst_on rfl rfl ?_
          refine lst_pick_false rfl rfl rfl ?_
          refine lst_pick_false rfl rfl rfl ?_
          refine lst_nil ?_
          refine ex_then ?_
          refine cod_cond_false rfl ?_
          refine cod_skip ?_
          refine ex_then ?_
          refine cod_region ?_
          refine lst_move rfl rfl ?_
          refine lst_move rfl rfl ?_
          refine lst_on rfl rfl ?_
          refine lst_move rfl rfl ?_
          refine lst_on rfl rfl ?_
          refine lst_int rfl rfl rfl bin_eql ?_
          refine lst_on rfl rfl ?_
          refine lst_move rfl rfl ?_
          refine lst_off rfl rfl rfl ?_
          refine lst_off rfl rfl rfl ?_
          refine lst_off rfl rfl rfl ?_
          refine lst_off rfl rfl rfl ?_
          refine lst_off rfl rfl rfl ?_
          refine lst_off rfl rfl rfl ?_
          refine lst_off rfl rfl rfl ?_
          refine lst_off rfl rfl rfl ?_
          refine lst_off rfl rfl rfl ?_
          refine lst_on rfl rfl ?_
          refine lst_pick_false rfl rfl rfl ?_
          refine lst_pick_false rfl rfl rfl ?_
          refine lst_assign rfl rfl ?_
          refine lst_nil ?_
          refine ex_block_normal ?_
          refine ex_then ?_
          refine cod_region ?_
          refine lst_move rfl rfl ?_
          refine lst_int rfl rfl rfl (fun w => bin_add w (wrap_i64' _ (by omega) (by have := hok.1; omega))) ?_
          refine lst_assign rfl rfl ?_
          refine lst_nil ?_
          refine ex_round' (i + 1) (by omega) (by (try dsimp only); omega) (by repeat (first | exact Sub.nil _ | refine Sub.cons rfl ?_)) (by repeat (first | exact Pck.nil _ | exact Pck.refl _ | (apply Pck.cons; focus ((repeat (first | exact Rem.here _ | apply Rem.there)); done)) | refine Pck.skip _ ?_))
      · skip
        refine cod_exit ?_
        refine ex_then_exit ?_
        refine ex_then_exit ?_
        refine ex_block_exit ?_
        refine ex_then ?_
        refine cod_seq ?_
        refine cod_region ?_
        refine lst_move rfl rfl ?_
        refine lst_move rfl rfl ?_
        refine lst_int rfl rfl rfl bin_eql ?_
        refine lst_bin rfl rfl rfl (run_eqb Tryd.underlying4 _ _ _ _) ?_
        refine lst_move rfl rfl ?_
        refine lst_on rfl rfl ?_
        refine lst_fn0 (vs := []) rfl rfl F.ent21 (fun a w ha => fined_c w) ?_
        refine lst_pick_true rfl rfl rfl ?_
        refine lst_assign rfl rfl ?_
        refine lst_nil ?_
        refine ex_then ?_
        refine cod_ret ?_
        exact ex_ret rfl (fun a w ha => res_one rfl rfl ha) (fun a w ha => ⟨rfl, ha.grown (List.nil_sublist _)⟩)

end Go.Proofs.YtofkhehcnfiopaaDoor.N
