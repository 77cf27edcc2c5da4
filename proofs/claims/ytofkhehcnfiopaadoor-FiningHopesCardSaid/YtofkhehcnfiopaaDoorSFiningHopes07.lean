/- Parts of the walks of the laws on fining, those that FiningHopes needs: F22, Clr2, F23, Ned, Sx7, More, F25, Sx8, Shuf, Ref, F29, Rds, PutS, F31, PutL, PutL2, Sx10, F33, Raw, All, Eqa, F35, Sx11, F36, Puts, F37, Sx12, Dist. -/
import Derived.Test.YtofkhehcnfiopaaDoorSFiningHopes06
import Derived.Test.YtofkhehcnfiopaaDoorProg
import Derived.LaidEql
import Derived.Stop.Asserts
import Derived.RowKitTokens
import Derived.DeepKeys3
import Derived.Test.YtofkhehcnfiopaaDoorSFiningHopes05
namespace Go.Proofs.YtofkhehcnfiopaaDoor.N
open Go Go.RowKit Go.Proofs
theorem F.agg97 : aggB Tryd.prog 97 = true := by unfold aggB; rw [Tryd.underlying97]
theorem F.ent104 : Enters Tryd.prog 104 := enters_of Tryd.func104 rfl (by kernel_rfl)
theorem F.ent121 : Enters Tryd.prog 121 := enters_of Tryd.func121 rfl (by kernel_rfl)
theorem mhas_c (n f : Nat) (hn : n < 18446744073709551616) (w : World) : Calls Tryd.prog 104 #[.int .u64 (n : Int), .int .u8 (f : Int)] w fun e w' => e = .returned (.bool (n.testBit f)) ∧ Grew w w' [] := by
  have hs1 : n >>> (min f 64) < 18446744073709551616 := Nat.lt_of_le_of_lt (by rw [Nat.shiftRight_eq_div_pow]; exact Nat.div_le_self _ _) hn
  refine enter (N := 10) [(0, .int .u64 (n : Int)), (1, .int .u8 (f : Int))] Tryd.func104 rfl Tryd.ntmps104 rfl rfl ?_
  refine cod_seq ?_
  refine cod_region ?_
  refine lst_assign rfl rfl ?_
  refine lst_nil ?_
  refine ex_then ?_
  refine cod_seq ?_
  refine cod_region ?_
  refine lst_move rfl rfl ?_
  refine lst_move rfl rfl ?_
  refine lst_shr rfl rfl rfl (by omega) (fdiv_shr _ _ _) ?_
  refine lst_int rfl rfl rfl (fun w => bin_and w (u64_and _ 1 hs1 (by omega))) ?_
  refine lst_int rfl rfl rfl bin_eql ?_
  refine lst_assign rfl rfl ?_
  refine lst_nil ?_
  refine ex_then ?_
  refine cod_ret ?_
  refine ex_ret rfl (fun a w ha => res_one rfl rfl ha) (fun a w ha => ?_)
  exact ⟨by rw [← bit_test n f 64 hn]; rfl, ha.grown (List.nil_sublist _)⟩

theorem mwith_c (n f : Nat) (hn : n < 18446744073709551616) (hf : f < 64) (w : World) : Calls Tryd.prog 121 #[.int .u64 (n : Int), .int .u8 (f : Int)] w fun e w' => e = .returned (.int .u64 ((n ||| 1 <<< f : Nat) : Int)) ∧ Grew w w' [] := by
  refine enter (N := 9) [(0, .int .u64 (n : Int)), (1, .int .u8 (f : Int))] Tryd.func121 rfl Tryd.ntmps121 rfl rfl ?_
  refine cod_seq ?_
  refine cod_region ?_
  refine lst_assign rfl rfl ?_
  refine lst_nil ?_
  refine ex_then ?_
  refine cod_seq ?_
  refine cod_region ?_
  refine lst_move rfl rfl ?_
  refine lst_move rfl rfl ?_
  refine lst_shl rfl rfl rfl (by omega) (shl_u64 hf) ?_
  refine lst_int rfl rfl rfl (fun w => bin_or w (u64_or _ _ hn (shl_lt hf))) ?_
  refine lst_assign rfl rfl ?_
  refine lst_nil ?_
  refine ex_then ?_
  refine cod_ret ?_
  refine ex_ret rfl (fun a w ha => res_one rfl rfl ha) (fun a w ha => ?_)
  exact ⟨by rfl, ha.grown (List.nil_sublist _)⟩

theorem mlist_c (n : Nat) (hn : n < 18446744073709551616) (w : World) : Calls Tryd.prog 101 #[.int .u64 (n : Int)] w fun e w' => ∃ A c, e = .returned (.slice A (listN n 64).length c) ∧ Grew w w' [.row 3 1 A (listN n 64).length c (ints (listN n 64))] := by
  refine enter (N := 18) [(0, .int .u64 (n : Int))] Tryd.func101 rfl Tryd.ntmps101 rfl rfl ?_
  refine cod_seq ?_
  refine cod_region ?_
  refine lst_assign rfl rfl ?_
  refine lst_nil ?_
  refine ex_then ?_
  refine cod_seq ?_
  refine cod_region ?_
  refine lst_assign rfl rfl ?_
  refine lst_nil ?_
  refine ex_then ?_
  refine cod_seq ?_
  refine cod_seq ?_
  refine cod_region ?_
  refine lst_move rfl rfl ?_
  refine lst_nil ?_
  refine ex_then ?_
  refine cod_block ?_
  refine cod_nil 3 1 ?_
  refine cod_loop (G := Nat × Option Addr × Nat) (fun g => g.1 ≤ 64) (fun g => 64 - g.1) (fun g => [(0, .int .u64 (n : Int)), (3, .slice g.2.1 (listN n g.1).length g.2.2), (5, .int .i64 (g.1 : Int))]) (fun g => [.row 3 1 g.2.1 (listN n g.1).length g.2.2 (ints (listN n g.1))]) (0, none, 0) (Nat.zero_le _) (by repeat (first | exact Sub.nil _ | refine Sub.cons rfl ?_)) (by repeat (first | exact List.Sublist.refl _ | exact List.nil_sublist _ | refine List.Sublist.cons_cons _ ?_ | refine List.Sublist.cons _ ?_)) ?_
  rintro ⟨k, A1, c1⟩ hk
  (try dsimp only at hk ⊢)
  refine cod_seq ?_
  refine cod_region ?_
  refine lst_int rfl rfl rfl bin_lss ?_
  refine lst_nil ?_
  refine ex_then ?_
  refine cod_seq ?_
  refine cod_cond_dec rfl (fun hc0 => ?_) (fun hc0 => ?_)
  · skip
    have hk64 : k < 64 := by omega
    refine cod_skip ?_
    refine ex_then ?_
    refine cod_seq ?_
    refine cod_block ?_
    refine cod_seq ?_
    refine cod_region ?_
    refine lst_move rfl rfl ?_
    refine lst_assign rfl rfl ?_
    refine lst_nil ?_
    refine ex_then ?_
    refine cod_seq ?_
    refine cod_region ?_
    refine lst_move rfl rfl ?_
    refine lst_move rfl rfl ?_
    refine lst_convert rfl rfl Tryd.underlying3 Tryd.underlying77 (wrap_u8 _ (by omega)) ?_
    refine lst_fn0 (vs := [_, _]) rfl rfl F.ent104 (fun a w ha => mhas_c n k hn w) ?_
    refine lst_nil ?_
    refine ex_then ?_
    refine cod_cond_bool rfl (fun hc1 => ?_) (fun hc1 => ?_)
    · skip
      refine cod_region ?_
      refine lst_move rfl rfl ?_
      refine lst_move rfl rfl ?_
      refine lst_lit (vs := [(0, _)]) rfl rfl Tryd.underlying25 F.ti3 rfl rfl rfl ?_
      intro b14
      refine lst_append rfl rfl rfl Tryd.underlying25 F.ti3 rfl rfl rfl (by have := listN_len n k; unfold maxLen; omega) (by have := listN_len n k; omega) ?_
      intro A2 c2
      refine lst_assign rfl rfl ?_
      refine lst_nil ?_
      refine ex_block_normal ?_
      refine ex_then ?_
      refine cod_region ?_
      refine lst_int rfl rfl rfl (fun w => bin_add w (wrap_i64' _ (by omega) (by omega))) ?_
      refine lst_move rfl rfl ?_
      refine lst_nil ?_
      have e := listN_succ n k
      rw [if_pos hc1] at e
      refine ex_round (k + 1, A2, c2) (by (try dsimp only); omega) (by (try dsimp only); omega) (by (try dsimp only); (try rw [e]); simp only [List.length_append, List.length_singleton]; repeat (first | exact Sub.nil _ | refine Sub.cons rfl ?_)) (by (try dsimp only); (try rw [e]); simp only [ints_snoc, List.length_append, List.length_singleton]; repeat (first | exact List.Sublist.refl _ | exact List.nil_sublist _ | refine List.Sublist.cons_cons _ ?_ | refine List.Sublist.cons _ ?_))
    · skip
      refine cod_skip ?_
      refine ex_block_normal ?_
      refine ex_then ?_
      refine cod_region ?_
      refine lst_int rfl rfl rfl (fun w => bin_add w (wrap_i64' _ (by omega) (by omega))) ?_
      refine lst_move rfl rfl ?_
      refine lst_nil ?_
      have e := listN_succ n k
      rw [if_neg (by rw [hc1]; simp), List.append_nil] at e
      refine ex_round (k + 1, A1, c1) (by (try dsimp only); omega) (by (try dsimp only); omega) (by (try dsimp only); (try rw [e]); repeat (first | exact Sub.nil _ | refine Sub.cons rfl ?_)) (by (try dsimp only); (try rw [e]); repeat (first | exact List.Sublist.refl _ | exact List.nil_sublist _ | refine List.Sublist.cons_cons _ ?_ | refine List.Sublist.cons _ ?_))
  · skip
    refine cod_exit ?_
    refine ex_then_exit ?_
    refine ex_then_exit ?_
    refine ex_block_exit ?_
    refine ex_then ?_
    refine cod_seq ?_
    refine cod_region ?_
    refine lst_move rfl rfl ?_
    refine lst_assign rfl rfl ?_
    refine lst_nil ?_
    refine ex_then ?_
    refine cod_ret ?_
    obtain rfl : k = 64 := by omega
    exact ex_ret rfl (fun a w ha => res_one rfl rfl ha) (fun a w ha => ⟨A1, c1, rfl, ha.grown (by repeat (first | exact List.Sublist.refl _ | exact List.nil_sublist _ | refine List.Sublist.cons_cons _ ?_ | refine List.Sublist.cons _ ?_))⟩)

theorem hopeful_c {C : Ctx} {fr : List (Nat × Value)} {T : List Res} {a : Act} {w : World} (hC : C.P = Tryd.prog) {ags : List Ag} {used p cg : Nat} {aA : Option Addr} (hok : Oks ags) (hu : used < 256) (hp : p < 64) (hAg : Res.row 89 5 aA ags.length cg (ags.flatMap Ag.cells) ∈ T) (ha : At C fr (T) a w) : Calls C.P 100 #[.agg [.slice aA ags.length cg, .int .u8 (used : Int)].toArray, .int .u8 (p : Int)] w fun e w' => ∃ n, SetN n (Clr ags used p) ∧ e = .returned (.int .u64 (n : Int)) ∧ At C fr T a w' := by
  obtain ⟨P, B, w0, N0, ds⟩ := C
  obtain rfl : P = Tryd.prog := hC
  (try dsimp only at hB)
  (try dsimp only at hN)
  refine enter_in (N := 26) [(0, .agg [.slice aA ags.length cg, .int .u8 (used : Int)].toArray), (1, .int .u8 (p : Int))] ha Tryd.func100 rfl Tryd.ntmps100 rfl rfl ?_
  refine cod_seq ?_
  refine cod_region ?_
  refine lst_box rfl rfl ?_
  intro b2
  refine lst_assign rfl rfl ?_
  refine lst_nil ?_
  refine ex_then ?_
  refine cod_seq ?_
  refine cod_region ?_
  refine lst_assign rfl rfl ?_
  refine lst_nil ?_
  refine ex_then ?_
  refine cod_seq ?_
  refine cod_seq ?_
  refine cod_region ?_
  refine lst_loadN rfl rfl F.agg75 F.ti75 ?_
  refine lst_move rfl rfl ?_
  refine lst_call (X := Nat × Nat) (first := []) (cap := []) (vs := [_, _]) (p := fun y => (roundP ags used (iterP ags used p y.1) 64).2 = false) (val := fun y => .pointer (some ⟨y.2, 0, none⟩)) (rs := fun y => .blk y.2 (.cells (mcells (.func (.func 116) #[] #[]) (iterP ags used p (y.1 + 1))).toArray 99 (0, 0)) :: .blk b2 (.cells [.slice aA ags.length cg, .int .u8 (used : Int)].toArray 75 (0, 0)) :: T) rfl rfl rfl F.ent88 (fun a w ha => by
    obtain ⟨N, h64, hN⟩ := fix_all (ags := ags) (used := used) (p := p) hok
    exact (prices_c rfl hok hu hp h64 hN (by simp [hAg]) ha).mono (fun e w' h => by obtain ⟨j, b, h1, h2, h3, h4⟩ := h; exact ⟨(j, b), h2, h3, h4⟩)) ?_
  rintro ⟨j, bm⟩ hfx
  dsimp only at hfx ⊢
  have hsame : iterP ags used p (j + 1) = iterP ags used p j := (round_ch 64 hfx).1
  rw [hsame]
  have hBd := Bd.iter (used := used) (p := p) hok j
  have hkn : ∀ f, f < 64 → (((iterP ags used p j).getD f default).known = true ↔ Clr ags used p f) := fun f hf => known_clr hok hfx hf
  obtain ⟨ps, hpsd⟩ : ∃ ps, iterP ags used p j = ps := ⟨_, rfl⟩
  rw [hpsd] at hBd hkn hfx ⊢
  refine lst_nilCheck rfl rfl ?_
  refine lst_field_z rfl rfl F.fi99_1 F.ti97 ?_
  refine lst_loadN_at (l := ps.flatMap Pr.cells) rfl rfl F.agg97 F.ti97 (by have := mcells_len (.func (.func 116) #[] #[]) ps; rw [hBd.1] at this; simp [mcells] at this; simpa using this) (fun a w ha j u hu => cell_of_blk (ha.mem_blk (InB.mem (b := bm))) (by rw [Nat.add_comm 1 j]; exact hu)) ?_
  refine lst_move rfl rfl ?_
  refine lst_nil ?_
  refine ex_then ?_
  refine cod_block ?_
  refine cod_loop' (G := Nat × Nat) (fun g => g.1 ≤ 64 ∧ g.2 < 18446744073709551616 ∧ ∀ f, f < 64 → (g.2.testBit f = true ↔ f < g.1 ∧ Clr ags used p f)) (fun g => 64 - g.1) (fun g => [(1, .int .u8 (p : Int)), (5, .int .u64 (g.2 : Int)), (13, .agg (ps.flatMap Pr.cells).toArray), (14, .int .i64 (g.1 : Int))]) (fun g => T) (0, 0) ⟨Nat.zero_le _, by decide, fun f _ => ⟨fun h => by simp at h, fun h => absurd h.1 (by omega)⟩⟩ (by repeat (first | exact Sub.nil _ | refine Sub.cons rfl ?_)) (by repeat (first | exact Pck.nil _ | exact Pck.refl _ | (apply Pck.cons; focus ((repeat (first | exact Rem.here _ | apply Rem.there)); done)) | refine Pck.skip _ ?_)) ?_
  rintro ⟨k, n⟩ ⟨hk64, hn, hI⟩
  dsimp only at hk64 hn hI ⊢
  refine cod_seq ?_
  refine cod_region ?_
  refine lst_int rfl rfl rfl bin_lss ?_
  refine lst_nil ?_
  refine ex_then ?_
  refine cod_seq ?_
  refine cod_cond_dec rfl (fun hc0 => ?_) (fun hc0 => ?_)
  · skip
    have hk' : k < 64 := by omega
    refine cod_skip ?_
    refine ex_then ?_
    refine cod_seq ?_
    refine cod_block ?_
    refine cod_seq ?_
    refine cod_region ?_
    refine lst_move rfl rfl ?_
    refine lst_index_v (j := k) (l := [.int .i64 ((ps.getD k default).cost : Int), .int .i64 ((ps.getD k default).puts : Int), .bool (ps.getD k default).known]) rfl rfl rfl Tryd.underlying97 F.agg95 F.ti95 rfl hk' (drop_pr ps k (by rw [hBd.1]; exact hk')) ?_
    refine lst_alloc rfl F.ti95 ?_
    intro b7
    refine lst_assign rfl rfl ?_
    refine lst_store rfl rfl F.ti95 rfl ?_
    refine lst_nil ?_
    refine ex_then ?_
    refine cod_seq ?_
    refine cod_region ?_
    refine lst_field_z rfl rfl F.fi95_2 F.ti4 ?_
    refine lst_load rfl rfl F.one4 ?_
    refine lst_nil ?_
    refine ex_then ?_
    refine cod_cond_bool rfl (fun hc1 => ?_) (fun hc1 => ?_)
    · skip
      refine cod_region ?_
      refine lst_move rfl rfl ?_
      refine lst_move rfl rfl ?_
      refine lst_convert rfl rfl Tryd.underlying3 Tryd.underlying77 (wrap_u8 _ (by omega)) ?_
      refine lst_fn0 (vs := [_, _]) rfl rfl F.ent121 (fun a w ha => mwith_c n k hn hk' w) ?_
      refine lst_assign rfl rfl ?_
      refine lst_nil ?_
      refine ex_block_normal ?_
      refine ex_then ?_
      refine cod_region ?_
      refine lst_int rfl rfl rfl (fun w => bin_add w (wrap_i64' _ (by omega) (by omega))) ?_
      refine lst_move rfl rfl ?_
      refine lst_nil ?_
      refine ex_round' (k + 1, n ||| 1 <<< k) ⟨by omega, or_one_lt hn hk', fun f hf => ?_⟩ (by (try dsimp only); omega) (by repeat (first | exact Sub.nil _ | refine Sub.cons rfl ?_)) (by repeat (first | exact Pck.nil _ | exact Pck.refl _ | (apply Pck.cons; focus ((repeat (first | exact Rem.here _ | apply Rem.there)); done)) | refine Pck.skip _ ?_))
      rw [testBit_or_one, Bool.or_eq_true, decide_eq_true_eq, hI f hf]
      have := (hkn k hk').1 hc1
      constructor
      · rintro (h | h)
        · exact ⟨by omega, h.2⟩
        · subst h; exact ⟨by omega, this⟩
      · rintro ⟨h1, h2⟩
        rcases Nat.lt_or_ge f k with h | h
        · exact .inl ⟨h, h2⟩
        · exact .inr (by omega)
    · skip
      refine cod_skip ?_
      refine ex_block_normal ?_
      refine ex_then ?_
      refine cod_region ?_
      refine lst_int rfl rfl rfl (fun w => bin_add w (wrap_i64' _ (by omega) (by omega))) ?_
      refine lst_move rfl rfl ?_
      refine lst_nil ?_
      refine ex_round' (k + 1, n) ⟨by omega, hn, fun f hf => ?_⟩ (by (try dsimp only); omega) (by repeat (first | exact Sub.nil _ | refine Sub.cons rfl ?_)) (by repeat (first | exact Pck.nil _ | exact Pck.refl _ | (apply Pck.cons; focus ((repeat (first | exact Rem.here _ | apply Rem.there)); done)) | refine Pck.skip _ ?_))
      rw [hI f hf]
      have hno : ¬ Clr ags used p k := fun h => by have := (hkn k hk').2 h; rw [hc1] at this; cases this
      constructor
      · rintro ⟨h1, h2⟩
        exact ⟨by omega, h2⟩
      · rintro ⟨h1, h2⟩
        rcases Nat.lt_or_ge f k with h | h
        · exact ⟨h, h2⟩
        · obtain rfl : f = k := by omega
          exact absurd h2 hno
  · skip
    refine cod_exit ?_
    refine ex_then_exit ?_
    refine ex_then_exit ?_
    refine ex_block_exit ?_
    refine ex_then ?_
    refine cod_seq ?_
    refine cod_region ?_
    refine lst_move rfl rfl ?_
    refine lst_assign rfl rfl ?_
    refine lst_nil ?_
    refine ex_then ?_
    refine cod_ret ?_
    obtain rfl : k = 64 := by omega
    exact ex_ret rfl (fun a w ha => res_one rfl rfl ha) (fun _ _ ha' => ⟨n, ⟨hn, fun f hf => (hI f hf).trans ⟨fun h => h.2, fun h => ⟨hf, h⟩⟩⟩, rfl, ha.back (ha'.pck (by repeat (first | exact Pck.nil _ | exact Pck.refl _ | (apply Pck.cons; focus ((repeat (first | exact Rem.here _ | apply Rem.there)); done)) | refine Pck.skip _ ?_)))⟩)

end Go.Proofs.YtofkhehcnfiopaaDoor.N
namespace Go.Proofs.YtofkhehcnfiopaaDoor.N
open Go Go.RowKit Go.Proofs
open Classical in
noncomputable def fltP (q : Nat → Prop) (l : List Nat) : List Nat := l.filter fun i => decide (q i)
theorem fltP_yes {q : Nat → Prop} {l : List Nat} {i : Nat} (h : q i) : fltP q (l ++ [i]) = fltP q l ++ [i] := by
  unfold fltP
  rw [List.filter_append]
  simp [h]
theorem fltP_no {q : Nat → Prop} {l : List Nat} {i : Nat} (h : ¬ q i) : fltP q (l ++ [i]) = fltP q l := by
  unfold fltP
  rw [List.filter_append]
  simp [h]
theorem fltP_len (q : Nat → Prop) (l : List Nat) : (fltP q l).length ≤ l.length := List.length_filter_le _ _
theorem listN_flt {n : Nat} {q : Nat → Prop} (h : SetN n q) : listN n 64 = fltP q (List.range 64) := by
  unfold listN fltP
  refine List.filter_congr fun f hf => ?_
  have := h.2 f (List.mem_range.1 hf)
  cases e : n.testBit f with
  | true => rw [e] at this; simp [this.1 rfl]
  | false => rw [e] at this; simp; intro hq; have := this.2 hq; cases this
theorem shl_u8 {k : Nat} (hk : k < 8) : IntKind.u8.wrap (1 * 2 ^ (min ((k : Int)).toNat 8)) = ((1 <<< k : Nat) : Int) := by
  rw [Int.toNat_natCast, Nat.min_eq_left (by omega), Nat.one_shiftLeft, Int.one_mul]
  have h1 : 2 ^ k < 2 ^ 8 := Nat.pow_lt_pow_right (by omega) hk
  have h2 := wrap_u8 (2 ^ k) h1
  rw [← h2]
  congr 1
theorem shl8_lt {k : Nat} (hk : k < 8) : 1 <<< k < 256 := by
  rw [Nat.one_shiftLeft]
  exact show _ < 2 ^ 8 from Nat.pow_lt_pow_right (by omega) hk
noncomputable def hopeL (ags : List Ag) (p : Nat) : List Nat := fltP (fun f => ¬ Clr ags (usedAll ags.length) p f) (List.range 64)
end Go.Proofs.YtofkhehcnfiopaaDoor.N
namespace Go.Proofs.YtofkhehcnfiopaaDoor.N
open Go Go.RowKit Go.Proofs
theorem F.ent100 : Enters Tryd.prog 100 := enters_of Tryd.func100 rfl (by kernel_rfl)
theorem F.ent101 : Enters Tryd.prog 101 := enters_of Tryd.func101 rfl (by kernel_rfl)
theorem Hopeless_ok (A : Option Addr) (c : Nat) (ags : List Ag) (hok : Oks ags) (p : Nat) (hp : p < 64) (w : World) (hA : RdL Ag.cells 5 w A ags) : Calls Tryd.prog 51 #[.slice A ags.length c, .int .i64 (p : Int)] w fun e w' => ∃ A' c', e = .returned (.tuple #[.slice A' (hopeL ags p).length c', .int .i64 0]) ∧ Grew w w' [.row 3 1 A' (hopeL ags p).length c' (ints (hopeL ags p))] := by
  have hua : usedAll ags.length < 256 := by have := usedAll_lt hok.1; omega
  refine enter_defers (N := 15) [(0, .slice A ags.length c), (1, .int .i64 (p : Int))] Tryd.func51 rfl Tryd.ntmps51 rfl rfl ?_
  refine cod_seq ?_
  refine cod_region ?_
  refine lst_assign rfl rfl ?_
  refine lst_alloc rfl F.ti35 ?_
  intro b5
  refine lst_nil ?_
  refine ex_then ?_
  refine cod_seq ?_
  refine cod_region ?_
  refine lst_defer (first := []) (cap := []) (vs := [_]) rfl rfl ?_
  refine lst_nil ?_
  refine ex_then ?_
  refine cod_seq ?_
  refine cod_region ?_
  refine lst_move rfl rfl ?_
  refine lst_fn (X := Option Addr × Nat) (vs := [_]) (p := fun _ => True) (val := fun x => .agg [.slice x.1 ags.length x.2, .int .u8 (usedAll ags.length : Nat)].toArray) (rs := fun x => [.row 89 5 x.1 ags.length x.2 (ags.flatMap Ag.cells)]) rfl rfl F.ent75 (fun a w ha => (begin_ok A c ags hok w (hA.later ha.below)).mono (fun e w' h => by obtain ⟨A', c', h1, h2⟩ := h; exact ⟨(A', c'), trivial, h1, h2⟩)) ?_
  rintro ⟨aA, cg⟩ -
  dsimp only [List.cons_append, List.nil_append]
  refine lst_alloc rfl F.ti75 ?_
  intro b6
  refine lst_store rfl rfl F.ti75 rfl ?_
  refine lst_nil ?_
  refine ex_then ?_
  refine cod_seq ?_
  refine any_begin [.b b5] F.follows 8 rfl [false, false, false, false, false, false, false, false] rfl ?_
  refine any_take (listed' := [true, false, false, false, false, false, false, false].toArray) 0 rfl rfl rfl (by kernel_rfl) (by kernel_rfl) (by kernel_rfl) (by repeat (first | exact List.Sublist.refl _ | exact List.nil_sublist _ | refine List.Sublist.cons_cons _ ?_ | refine List.Sublist.cons _ ?_)) (yld_loadN rfl F.agg75 F.ti75) rfl ?_
  refine any_take (listed' := [true, true, false, false, false, false, false, false].toArray) 1 rfl rfl rfl (by kernel_rfl) (by kernel_rfl) (by kernel_rfl) (by repeat (first | exact List.Sublist.refl _ | exact List.nil_sublist _ | refine List.Sublist.cons_cons _ ?_ | refine List.Sublist.cons _ ?_)) (yld_move rfl) rfl ?_
  refine any_one (listed' := [true, true, true, false, false, false, false, false].toArray) 2 (by kernel_rfl) rfl rfl ?_
  refine lst_fn0 (vs := [_]) rfl rfl F.ent76 (fun a w ha => melt_ok p hp w) ?_
  refine lst_nil ?_
  refine any_next (by repeat (first | exact List.Sublist.refl _ | exact List.nil_sublist _ | refine List.Sublist.cons_cons _ ?_ | refine List.Sublist.cons _ ?_)) ?_
  refine any_one (listed' := [true, true, true, true, false, false, false, false].toArray) 3 (by kernel_rfl) rfl rfl ?_
  refine lst_call (X := Nat) (first := []) (cap := []) (vs := [_, _]) (p := fun n => SetN n (Clr ags (usedAll ags.length) p)) (val := fun n => .int .u64 (n : Int)) (rs := fun _ => .blk b6 (.cells [.slice aA ags.length cg, .int .u8 (usedAll ags.length : Nat)].toArray 75 (0, 0)) :: .row 89 5 aA ags.length cg (ags.flatMap Ag.cells) :: [.blk b5 (.cells [.int .i64 0].toArray 35 (0, 0))]) rfl rfl rfl F.ent100 (fun a w ha => (hopeful_c rfl hok hua hp (by simp) ha).mono (fun e w' h => h)) ?_
  intro n hset
  dsimp only at hset ⊢
  refine lst_nil ?_
  refine any_next (by repeat (first | exact List.Sublist.refl _ | exact List.nil_sublist _ | refine List.Sublist.cons_cons _ ?_ | refine List.Sublist.cons _ ?_)) ?_
  refine any_one (listed' := [true, true, true, true, true, false, false, false].toArray) 4 (by kernel_rfl) rfl rfl ?_
  refine lst_not64 rfl rfl hset.1 rfl ?_
  refine lst_nil ?_
  refine any_next (by repeat (first | exact List.Sublist.refl _ | exact List.nil_sublist _ | refine List.Sublist.cons_cons _ ?_ | refine List.Sublist.cons _ ?_)) ?_
  refine any_one (listed' := [true, true, true, true, true, true, false, false].toArray) 5 (by kernel_rfl) rfl rfl ?_
  refine lst_fn (X := Option Addr × Nat) (vs := [_]) (p := fun _ => True) (val := fun x => .slice x.1 (hopeL ags p).length x.2) (rs := fun x => [.row 3 1 x.1 (hopeL ags p).length x.2 (ints (hopeL ags p))]) rfl rfl F.ent101 (fun a w ha => (mlist_c (18446744073709551615 ^^^ n) hset.compl.1 w).mono (fun e w' h => by obtain ⟨A', c', h1, h2⟩ := h; rw [listN_flt hset.compl] at h1 h2; exact ⟨(A', c'), trivial, h1, h2⟩)) ?_
  rintro ⟨lA, lc⟩ -
  dsimp only [List.cons_append, List.nil_append]
  refine lst_nil ?_
  refine any_next (by repeat (first | exact List.Sublist.refl _ | exact List.nil_sublist _ | refine List.Sublist.cons_cons _ ?_ | refine List.Sublist.cons _ ?_)) ?_
  refine any_take (listed' := [true, true, true, true, true, true, true, false].toArray) 6 rfl rfl rfl (by kernel_rfl) (by kernel_rfl) (by kernel_rfl) (by repeat (first | exact List.Sublist.refl _ | exact List.nil_sublist _ | refine List.Sublist.cons_cons _ ?_ | refine List.Sublist.cons _ ?_)) (yld_assign rfl) rfl ?_
  refine any_one (listed' := [true, true, true, true, true, true, true, true].toArray) 7 (by kernel_rfl) rfl rfl ?_
  refine lst_store rfl rfl F.ti35 rfl ?_
  refine lst_nil ?_
  refine any_next (by repeat (first | exact List.Sublist.refl _ | exact List.nil_sublist _ | refine List.Sublist.cons_cons _ ?_ | refine List.Sublist.cons _ ?_)) ?_
  refine any_done rfl (by kernel_rfl) ?_
  refine ex_then ?_
  refine cod_ret ?_
  exact ex_ret_caught (fun a w ha => ⟨_, res_tc (fn := Tryd.f51) ha rfl rfl rfl F.one35, lA, lc, rfl, ha.grown (by repeat (first | exact List.Sublist.refl _ | exact List.nil_sublist _ | refine List.Sublist.cons_cons _ ?_ | refine List.Sublist.cons _ ?_))⟩)

end Go.Proofs.YtofkhehcnfiopaaDoor.N
namespace Go.Proofs.YtofkhehcnfiopaaDoor.N
open Go Go.RowKit Go.Proofs
/-- What Shortest says. -/
structure ShS (ags : List Ag) (p f : Nat) (W : List Nat) (E : Nat) : Prop where
  yes : E = 0 → Clr ags (usedAll ags.length) p f ∧ (∃ c, Wy ags (usedAll ags.length) p f c W.length) ∧ ∀ c k, Wy ags (usedAll ags.length) p f c k → W.length ≤ k
  no : E ≠ 0 → E = 11 ∧ ¬ Clr ags (usedAll ags.length) p f ∧ W = []
theorem ShS.zero {ags : List Ag} {p f E : Nat} {W : List Nat} (h : ShS ags p f W E) (hc : Clr ags (usedAll ags.length) p f) : E = 0 := by
  by_cases hE : E = 0
  · exact hE
  · exact absurd hc (h.no hE).2.1
theorem ShS.iff {ags : List Ag} {p f E : Nat} {W : List Nat} (h : ShS ags p f W E) : E = 0 ↔ Clr ags (usedAll ags.length) p f := ⟨fun hE => (h.yes hE).1, h.zero⟩
end Go.Proofs.YtofkhehcnfiopaaDoor.N
namespace Go.Proofs.YtofkhehcnfiopaaDoor.N
open Go Go.RowKit Go.Proofs
variable {C : Ctx} {fr : List (Nat × Value)} {hp : List Res} {ops : Array Oper} {Q : Exit → Act → World → Prop} {rest : List Oper} {d : Nat} {ty : TypeId} {pos : String} {after : Array Edge}
theorem flatMap_len {α : Type} {cells : α → List Value} {size : Nat} (hs : ∀ x, (cells x).length = size) (l : List α) : (l.flatMap cells).length = l.length * size := by
  induction l with
  | nil => simp
  | cons x l ih => rw [List.flatMap_cons, List.length_append, hs, ih, List.length_cons, Nat.succ_mul]; omega
theorem RdL.cells_at {α : Type} {cells : α → List Value} {size : Nat} (hs : ∀ x, (cells x).length = size) (h0 : 0 < size) {w : World} {p : Addr} {l : List α} (h : RdL cells size w (some p) l) {j : Nat} {u : Value} (hu : (l.flatMap cells)[j]? = some u) : w.cell? (p.add j) = some u := by
  have hj : j < l.length * size := by
    rw [← flatMap_len hs]
    rcases Nat.lt_or_ge j (l.flatMap cells).length with h1 | h1
    · exact h1
    · rw [List.getElem?_eq_none h1] at hu; cases hu
  have hk : j / size < l.length := Nat.div_lt_of_lt_mul (by rw [Nat.mul_comm]; exact hj)
  obtain ⟨b, o, h1, _, h3⟩ := h (Nat.lt_of_le_of_lt (Nat.zero_le _) hk)
  cases h1
  have hd := Nat.div_add_mod j size
  rw [Nat.mul_comm] at hd
  have hm : j % size < size := Nat.mod_lt _ h0
  have hx : l[j / size]? = some l[j / size] := List.getElem?_eq_getElem hk
  have hjs : j % size < (cells l[j / size]).length := by rw [hs]; exact hm
  have hc : (cells l[j / size])[j % size]? = some (cells l[j / size])[j % size] := List.getElem?_eq_getElem hjs
  have h4 := flatMap_get hs l _ _ hx _ _ hc
  rw [hd, hu] at h4
  have h5 := h3 _ _ hx _ _ hc
  rw [addr_add]
  rw [Nat.add_assoc, hd] at h5
  rw [h5]
  exact h4.symm
/-- What is appended reads as a list. -/
theorem lst_append_cells {α : Type} {cells : α → List Value} {x y : Operand} {t e : TypeId} {A : Option Addr} {p : Addr} {n c m cb size bytes : Nat} {xs : List Value} {l : List α} {z : Value} {hp' : Option Addr → Nat → List Res} (hd : Nat.blt d C.N = true)
    (hx : ev fr x = some (.slice A n c)) (hy : ev fr y = some (.slice (some p) m cb)) (ht : C.P.underlying t = some (.slice e)) (hi : TI C.P e z size bytes) (hzs : z.cells.size = size) (hs0 : Nat.blt 0 size = true) (hs : ∀ x, (cells x).length = size) (ho1 : ∀ x, ∀ u ∈ cells x, u.oneCell' = true)
    (hnews : ∀ a w, At C fr hp a w → RdL cells size w (some p) l) (hl : l.length = m) [hr : InR A e size n c xs hp] [hu : ∀ A' c', UpR A e size n c xs (.row e size A' (n + m) c' (xs ++ l.flatMap cells)) hp (hp' A' c')]
    (h63 : n + m ≤ maxLen) (hbytes : (n + m) * bytes ≤ 140737488355328)
    (k : ∀ A' c', Lst C ops Q rest ((d, .slice A' (n + m) c') :: fr) (hp' A' c')) :
    Lst C ops Q (⟨some d, .call { callee := .builtin .append, args := #[x, y], argTypes := #[t, t] }, ty, pos, after, none⟩ :: rest) fr hp := by
  have ho : ∀ u ∈ l.flatMap cells, u.oneCell' = true := by
    intro u hu'
    obtain ⟨x, _, hx⟩ := List.mem_flatMap.1 hu'
    exact ho1 x u hx
  have hi' := hi
  obtain ⟨i, hi1, hi2, hi3, hi4⟩ := hi'
  have h0 := lt_of_blt hs0
  subst hi4
  refine lst_append_at hd hx hy ht hi hzs hs0 (fun a w ha j u hu => (hnews a w ha).cells_at hs h0 hu) (by rw [flatMap_len hs, hl]) ho (fun w v' w' hown hn hrun => ?_) h63 hbytes k
  exact append_place ht hi1 hi2 (hi3 ▸ hown) (by rw [flatMap_len hs, hi3, hl]) hn ho h63 hbytes hrun
theorem ra_len (x : RA) : x.cells.length = 5 := rfl
theorem ra_one (x : RA) : ∀ u ∈ x.cells, u.oneCell' = true := by
  intro u hu
  simp [RA.cells] at hu
  rcases hu with h | h | h | h | h <;> subst h <;> simp [Value.oneCell']
end Go.Proofs.YtofkhehcnfiopaaDoor.N
namespace Go.Proofs.YtofkhehcnfiopaaDoor.N
open Go Go.RowKit Go.Proofs
theorem ChS.mono {ags ms : List Ag} {p q f c c' E' : Nat} {W W' : List Nat} (hu : ∀ x ∈ ags, x ∈ ms) (hp : ∀ f, nn f p = 0 → nn f q = 0) (h : ChS ags p f W c 0) (h' : ChS ms q f W' c' E') : E' = 0 ∧ c' ≤ c := by
  have hw := (h.yes rfl).1.1.mono (ags' := ms) (used' := usedAll ms.length) (fun x hx => us_all.2 (hu x (us_all.1 hx))) hp
  by_cases hE : E' = 0
  · have := (h'.yes hE).1.2 _ _ hw
    unfold lexle at this
    exact ⟨hE, by omega⟩
  · exact absurd hw ((h'.no hE).2.2.2 _ _)
end Go.Proofs.YtofkhehcnfiopaaDoor.N
namespace Go.Proofs.YtofkhehcnfiopaaDoor.N
open Go Go.RowKit Go.Proofs
theorem F.ent24 : Enters Tryd.prog 24 := enters_of Tryd.func24 rfl (by kernel_rfl)
theorem F.ent51 : Enters Tryd.prog 51 := enters_of Tryd.func51 rfl (by kernel_rfl)
theorem dupa_nil  (w : World) : Calls Tryd.prog 24 #[.slice none 0 0] w fun e w' => ∃ A' c', e = .returned (.slice A' 0 c') ∧ Grew w w' [.row 24 5 A' 0 c' []] := by
  refine enter (N := 6) [(0, .slice none 0 0)] Tryd.func24 rfl Tryd.ntmps24 rfl rfl ?_
  refine cod_seq ?_
  refine cod_region ?_
  refine lst_assign rfl rfl ?_
  refine lst_nil ?_
  refine ex_then ?_
  refine cod_seq ?_
  refine cod_region ?_
  refine lst_lit0 rfl Tryd.underlying22 F.ti24 ?_
  intro b3
  refine lst_as_row 5 (.head _) ?_
  refine lst_move rfl rfl ?_
  refine lst_append_none rfl rfl rfl Tryd.underlying22 F.ti24 (Nat.le_refl _) ?_
  refine lst_assign rfl rfl ?_
  refine lst_nil ?_
  refine ex_then ?_
  refine cod_ret ?_
  exact ex_ret rfl (fun a w ha => res_one rfl rfl ha) (fun a w ha => ⟨_, 0, rfl, ha.grown (by repeat (first | exact List.Sublist.refl _ | exact List.nil_sublist _ | refine List.Sublist.cons_cons _ ?_ | refine List.Sublist.cons _ ?_))⟩)

theorem dupa_some {α : Type} {cells : α → List Value} (hs : ∀ x, (cells x).length = 5) (ho : ∀ x, ∀ u ∈ cells x, u.oneCell' = true) (p : Addr) (c : Nat) (l : List α) (hl : l.length ≤ 400000) (w : World) (hA : RdL cells 5 w (some p) l) : Calls Tryd.prog 24 #[.slice (some p) l.length c] w fun e w' => ∃ A' c', e = .returned (.slice A' l.length c') ∧ Grew w w' [.row 24 5 A' l.length c' (l.flatMap cells)] := by
  refine enter (N := 6) [(0, .slice (some p) l.length c)] Tryd.func24 rfl Tryd.ntmps24 rfl rfl ?_
  refine cod_seq ?_
  refine cod_region ?_
  refine lst_assign rfl rfl ?_
  refine lst_nil ?_
  refine ex_then ?_
  refine cod_seq ?_
  refine cod_region ?_
  refine lst_lit0 rfl Tryd.underlying22 F.ti24 ?_
  intro b3
  refine lst_as_row 5 (.head _) ?_
  refine lst_move rfl rfl ?_
  refine lst_append_cells (cells := cells) rfl rfl rfl Tryd.underlying22 F.ti24 rfl rfl hs ho (fun a w ha => hA.later ha.below) rfl (by unfold maxLen; omega) (by omega) ?_
  intro A1 c1
  refine lst_assign rfl rfl ?_
  refine lst_nil ?_
  refine ex_then ?_
  refine cod_ret ?_
  simp only [Nat.zero_add, List.nil_append]
  exact ex_ret rfl (fun a w ha => res_one rfl rfl ha) (fun a w ha => ⟨A1, c1, rfl, ha.grown (by repeat (first | exact List.Sublist.refl _ | exact List.nil_sublist _ | refine List.Sublist.cons_cons _ ?_ | refine List.Sublist.cons _ ?_))⟩)

theorem DupAgents_c {α : Type} {cells : α → List Value} (hs : ∀ x, (cells x).length = 5) (ho : ∀ x, ∀ u ∈ cells x, u.oneCell' = true) (A : Option Addr) (c : Nat) (l : List α) (hl : l.length ≤ 400000) (w : World) (hn : A = none → l = [] ∧ c = 0) (hA : RdL cells 5 w A l) :
    Calls Tryd.prog 24 #[.slice A l.length c] w fun e w' => ∃ A' c', e = .returned (.slice A' l.length c') ∧ Grew w w' [.row 24 5 A' l.length c' (l.flatMap cells)] := by
  cases A with
  | none =>
    obtain ⟨rfl, rfl⟩ := hn rfl
    exact dupa_nil w
  | some p => exact dupa_some hs ho p c l hl w hA

end Go.Proofs.YtofkhehcnfiopaaDoor.N
namespace Go.Proofs.YtofkhehcnfiopaaDoor.N
open Go Go.RowKit Go.Proofs
variable {C : Ctx} {fr : List (Nat × Value)} {hp hp' : List Res} {ops : Array Oper} {Q : Exit → Act → World → Prop} {rest : List Oper} {d : Nat} {ty : TypeId} {pos : String} {after : Array Edge}
theorem splice_take {cur xs vs out : List Value} {o L : Nat} (hx : cur.take L = xs) (hL : xs.length = L) (hs : Splice xs o vs out) : (cur.take o ++ vs ++ cur.drop (o + vs.length)).take L = out ∧ out.length = L := by
  have hl := hs.len
  have hcl : L ≤ cur.length := by
    have := congrArg List.length hx
    rw [List.length_take] at this
    omega
  have e : out = xs.take o ++ vs ++ xs.drop (o + vs.length) := hs.eq
  constructor
  · rw [e, ← hx]
    apply List.ext_getElem?
    intro i
    simp only [List.getElem?_take, List.getElem?_append, List.length_append, List.length_take, List.getElem?_drop]
    by_cases h1 : i < L
    · by_cases h2 : i < o
      · have h3 : i < min o cur.length := by omega
        have h4 : i < min o cur.length + vs.length := by omega
        have h5 : i < min o (min L cur.length) := by omega
        have h6 : i < min o (min L cur.length) + vs.length := by omega
        simp [h1, h2, h3, h4, h5, h6]
      · have e1 : min o cur.length = o := by omega
        have e2 : min o (min L cur.length) = o := by omega
        rw [e1, e2]
        by_cases h3 : i < o + vs.length
        · simp [h1, h2, h3]
        · have h4 : o + vs.length + (i - (o + vs.length)) < L := by omega
          simp [h1, h3, h4]
    · have h2 : ¬ i < min o (min L cur.length) := by omega
      have h3 : ¬ i < min o (min L cur.length) + vs.length := by omega
      have h4 : ¬ o + vs.length + (i - (min o (min L cur.length) + vs.length)) < L := by omega
      simp only [if_neg h1, if_neg h3, if_neg h4]
  · rw [e]
    simp
    omega
/-- A store, of one cell or of several, into a slice that is owned. -/
theorem lst_store_row {x y : Operand} {t e g o size N c n m : Nat} {xs vs out : List Value} {v z : Value} (hx : ev fr x = some (.pointer (some ⟨g, o, none⟩))) (hy : ev fr y = some v) (hi : TI C.P t z n m) [hc : Cells v vs] (hn : vs.length = n) (hs : Splice xs o vs out)
    (hu : Upd (.row e size (some ⟨g, 0, none⟩) N c xs) (.row e size (some ⟨g, 0, none⟩) N c out) hp hp')
    (k : Lst C ops Q rest fr hp') : Lst C ops Q (⟨none, .store t x y, ty, pos, after, none⟩ :: rest) fr hp := by
  obtain ⟨i, hi, _, hsz, _⟩ := hi
  refine lst_skip (fun a w ha => ?_) k
  obtain ⟨hlen, hown⟩ := ha.own _ hu.mem
  rcases hown with ⟨h1, _⟩ | ⟨g', cap, cur, hv, hb, hg, hnc, hm, hsize, htake⟩
  · cases h1
  · simp only [Value.slice.injEq, Option.some.injEq, Addr.mk.injEq, and_true, true_and] at hv
    obtain ⟨rfl, rfl⟩ := hv
    obtain ⟨ht1, ht2⟩ := splice_take htake hlen hs
    have hl := hs.len
    have hcl : N * size ≤ c * size := Nat.mul_le_mul_right size hnc
    have hcs : cur.toList.length = cur.size := Array.length_toList
    have hspl0 : o + vs.length ≤ cur.toList.length := by rw [hcs, hsize]; exact Nat.le_trans hl (by rw [hlen]; exact hcl)
    have hspl : Splice cur.toList o vs (cur.toList.take o ++ vs ++ cur.toList.drop (o + vs.length)) := ⟨rfl, hspl0⟩
    obtain ⟨w', s1, s2, s3⟩ := splice_upd hspl (t := e) (b := g) (w := w) (by rw [Array.toArray_toList]; exact hg) hc.one C.P
    refine ⟨w', ?_, ha.turn hu s3 ⟨ht2, .inr ⟨g, c, _, rfl, hb, s2, hnc, hm, ?_, ?_⟩⟩ (fun k hk => .inl hk)⟩
    · simp [execOp, ha.eval hx, ha.eval hy, Instr.storeAt, Instr.sureAddr, storeVar, sizeOf, typeInfo, hi, hc.eq, hn, hsz, s1]
    · simp
      omega
    · rw [List.toList_toArray]
      exact ht1
end Go.Proofs.YtofkhehcnfiopaaDoor.N
namespace Go.Proofs.YtofkhehcnfiopaaDoor.N
open Go Go.RowKit Go.Proofs
theorem splice_ints {l : List Nat} {o y : Nat} (ho : o < l.length) : Splice (ints l) o [.int .i64 (y : Int)] (ints (l.set o y)) := ⟨by
  unfold ints
  rw [List.map_set, List.set_eq_take_append_cons_drop, if_pos (by rw [List.length_map]; exact ho), List.append_assoc]; rfl, by rw [ints_len]; exact ho⟩
/-- No number twice. -/
def Inj (n : Nat) (l : List Nat) : Prop := l.length = n ∧ (∀ (a x : Nat), l[a]? = some x → x < n) ∧ ∀ (a b x : Nat), l[a]? = some x → l[b]? = some x → a = b
theorem Inj.range (n : Nat) : Inj n (List.range n) := by
  refine ⟨List.length_range, fun a x h => ?_, fun a b x h h' => ?_⟩
  · have := List.mem_range.1 (List.mem_of_getElem? h)
    exact this
  · obtain ⟨h1, e1⟩ := List.getElem?_eq_some_iff.1 h
    obtain ⟨h2, e2⟩ := List.getElem?_eq_some_iff.1 h'
    simp at e1 e2
    omega
theorem Inj.swap {n : Nat} {l : List Nat} (h : Inj n l) {i j x y : Nat} (hx : l[i]? = some x) (hy : l[j]? = some y) : Inj n ((l.set i y).set j x) := by
  obtain ⟨h1, h2, h3⟩ := h
  obtain ⟨hi, _⟩ := List.getElem?_eq_some_iff.1 hx
  obtain ⟨hj, _⟩ := List.getElem?_eq_some_iff.1 hy
  have key : ∀ (a z : Nat), ((l.set i y).set j x)[a]? = some z → l[if a = j then i else if a = i then j else a]? = some z := by
    intro a z hz
    rw [List.getElem?_set, List.length_set] at hz
    by_cases e1 : j = a
    · subst e1
      rw [if_pos rfl, if_pos hj] at hz
      rw [if_pos rfl, hx]
      exact hz
    · rw [if_neg e1, List.getElem?_set] at hz
      rw [if_neg (fun e => e1 e.symm)]
      by_cases e2 : i = a
      · subst e2
        rw [if_pos rfl, if_pos hi] at hz
        rw [if_pos rfl, hy]
        exact hz
      · rw [if_neg e2] at hz
        rw [if_neg (fun e => e2 e.symm)]
        exact hz
  refine ⟨by simp [h1], fun a z hz => h2 _ z (key a z hz), fun a b z ha hb => ?_⟩
  have := h3 _ _ z (key a z ha) (key b z hb)
  clear key h2 h3 ha hb hx hy
  revert this
  repeat' split
  all_goals omega
/-! Agents under other numbers. -/
theorem set_mem {l : List Ag} {o : Nat} {x y : Ag} (h : y ∈ l.set o x) : y ∈ l ∨ y = x := List.mem_or_eq_of_mem_set h
def Same (al bs : List Ag) : Prop := ∀ x, x ∈ al ↔ x ∈ bs
theorem Same.sym {al bs : List Ag} (h : Same al bs) : Same bs al := fun x => (h x).symm
theorem Same.clr {al bs : List Ag} (h : Same al bs) {p f : Nat} : Clr al (usedAll al.length) p f ↔ Clr bs (usedAll bs.length) p f :=
  ⟨Clr.mono (fun x hx => us_all.2 ((h x).1 (us_all.1 hx))) (fun _ h => h), Clr.mono (fun x hx => us_all.2 ((h x).2 (us_all.1 hx))) (fun _ h => h)⟩
theorem Same.wy {al bs : List Ag} (h : Same al bs) {p f c k : Nat} (hw : Wy al (usedAll al.length) p f c k) : Wy bs (usedAll bs.length) p f c k := hw.mono (fun x hx => us_all.2 ((h x).1 (us_all.1 hx))) (fun _ h => h)
theorem Same.short {al bs : List Ag} (h : Same al bs) {p f E E' : Nat} {W W' : List Nat} (h1 : ShS al p f W E) (h2 : ShS bs p f W' E') : E = E' ∧ W.length = W'.length := by
  by_cases hc : Clr al (usedAll al.length) p f
  · have e1 := h1.zero hc
    have e2 := h2.zero (h.clr.1 hc)
    obtain ⟨_, ⟨c1, w1⟩, m1⟩ := h1.yes e1
    obtain ⟨_, ⟨c2, w2⟩, m2⟩ := h2.yes e2
    exact ⟨by omega, Nat.le_antisymm (m1 _ _ (h.sym.wy w2)) (m2 _ _ (h.wy w1))⟩
  · have e1 := h1.no (fun e => hc (h1.iff.1 e))
    have e2 := h2.no (fun e => hc (h.clr.2 (h2.iff.1 e)))
    rw [e1.1, e2.1, e1.2.2, e2.2.2]
    exact ⟨rfl, rfl⟩
theorem Same.found {al bs : List Ag} (h : Same al bs) {p f : Nat} {o o' : Option Wk} (h1 : FoundO al (usedAll al.length) 1 (-1) (f, 0, 0) (fun t => decide (nn t.1 p = 0)) o) (h2 : FoundO bs (usedAll bs.length) 1 (-1) (f, 0, 0) (fun t => decide (nn t.1 p = 0)) o') : o.isSome = o'.isSome ∧ (wayO o).how.length = (wayO o').how.length := by
  obtain ⟨a1, a2, a3⟩ := short_spec h1
  obtain ⟨b1, b2, b3⟩ := short_spec h2
  have hi : o.isSome = true ↔ o'.isSome = true := a1.trans (h.clr.trans b1.symm)
  cases o with
  | none =>
    cases o' with
    | none => exact ⟨rfl, rfl⟩
    | some k => exact absurd (hi.2 rfl) (by simp)
  | some k =>
    cases o' with
    | none => exact absurd (hi.1 rfl) (by simp)
    | some k' =>
      refine ⟨rfl, ?_⟩
      obtain ⟨c1, w1⟩ := a2.resolve_right (by simp)
      obtain ⟨c2, w2⟩ := b2.resolve_right (by simp)
      exact Nat.le_antisymm ((a3.resolve_left (by simp)) _ _ (h.sym.wy w2)) ((b3.resolve_left (by simp)) _ _ (h.wy w1))
/-- What is known while agents get other numbers. -/
structure Ren (al os : List Ag) (l : List Nat) (i : Nat) : Prop where
  len : os.length = al.length
  sub : ∀ x ∈ os, x ∈ al
  done : ∀ (j q : Nat), j < i → l[j]? = some q → os[q]? = al[j]?
theorem Ren.zero (al : List Ag) (l : List Nat) : Ren al al l 0 := ⟨rfl, fun _ h => h, fun _ _ h => absurd h (by omega)⟩
theorem Ren.step {al os : List Ag} {l : List Nat} {i q : Nat} {x : Ag} (h : Ren al os l i) (hl : Inj al.length l) (hq : l[i]? = some q) (hx : al[i]? = some x) : Ren al (os.set q x) l (i + 1) := by
  have hql := hl.2.1 _ _ hq
  refine ⟨by rw [List.length_set]; exact h.len, fun y hy => ?_, fun j r hj hr => ?_⟩
  · rcases set_mem hy with h1 | h1
    · exact h.sub y h1
    · rw [h1]; exact List.mem_of_getElem? hx
  · rw [List.getElem?_set]
    by_cases e : q = r
    · subst e
      obtain rfl := hl.2.2 _ _ _ hq hr
      rw [if_pos rfl, if_pos (by rw [h.len]; exact hql), hx]
    · rw [if_neg e]
      have : j ≠ i := fun e' => by subst e'; rw [hq] at hr; exact e (Option.some.inj hr)
      exact h.done j r (by omega) hr
theorem Ren.same {al os : List Ag} {l : List Nat} (h : Ren al os l al.length) (hl : Inj al.length l) : Same al os := by
  intro x
  constructor
  · intro hx
    obtain ⟨j, hj, rfl⟩ := List.getElem_of_mem hx
    have hjl : j < l.length := by rw [hl.1]; exact hj
    have := h.done j _ hj (List.getElem?_eq_getElem hjl)
    rw [List.getElem?_eq_getElem hj] at this
    exact List.mem_of_getElem? this
  · exact h.sub x
end Go.Proofs.YtofkhehcnfiopaaDoor.N
namespace Go.Proofs.YtofkhehcnfiopaaDoor.N
open Go Go.RowKit Go.Proofs
/-- What is said first of agents and two numbers. -/
def askedR (l : List RA) (m p : Int) : Nat := if ¬ checkR l = 0 then checkR l else if (inB m 0 63 && inB p 0 63) = true then 0 else 1
theorem askedR_ok {ags : List Ag} {m : Nat} {p : Int} (hok : Oks ags) (hm : m < 64) (hp : 0 ≤ p ∧ p ≤ 63) : askedR (ags.map Ag.raw) (m : Int) p = 0 := by
  unfold askedR
  rw [checkR_raw hok, if_neg (by simp), if_pos]
  rw [Bool.and_eq_true, inB_true, inB_true]
  omega
end Go.Proofs.YtofkhehcnfiopaaDoor.N
namespace Go.Proofs.YtofkhehcnfiopaaDoor.N
open Go Go.RowKit Go.Proofs
theorem F.ent47 : Enters Tryd.prog 47 := enters_of Tryd.func47 rfl (by kernel_rfl)
theorem F.ent82 : Enters Tryd.prog 82 := enters_of Tryd.func82 rfl (by kernel_rfl)
theorem F.ent86 : Enters Tryd.prog 86 := enters_of Tryd.func86 rfl (by kernel_rfl)
theorem F.ent97 : Enters Tryd.prog 97 := enters_of Tryd.func97 rfl (by kernel_rfl)
theorem among_c (n lo hi : Int) (w : World) : Calls Tryd.prog 82 #[.int .i64 n, .int .i64 lo, .int .i64 hi] w fun e w' => e = .returned (.bool (inB n lo hi)) ∧ Grew w w' [] := by
  refine enter (N := 15) [(0, .int .i64 n), (1, .int .i64 lo), (2, .int .i64 hi)] Tryd.func82 rfl Tryd.ntmps82 rfl rfl ?_
  refine cod_seq ?_
  refine cod_region ?_
  refine lst_assign rfl rfl ?_
  refine lst_nil ?_
  refine ex_then ?_
  refine cod_seq ?_
  refine cod_region ?_
  refine lst_cut1 8 14 (.bool (inB n lo hi)) ?_ ?_
  · skip
    refine lst_move rfl rfl ?_
    refine lst_move rfl rfl ?_
    refine lst_int rfl rfl rfl bin_geq ?_
    refine lst_move rfl rfl ?_
    refine lst_split_bool (t := 10) rfl (fun hg10 => ?_) (fun hg10 => ?_)
    · skip
      refine lst_on rfl rfl ?_
      refine lst_move rfl rfl ?_
      refine lst_on rfl rfl ?_
      refine lst_move rfl rfl ?_
      refine lst_on rfl rfl ?_
      refine lst_int rfl rfl rfl bin_leq ?_
      refine lst_pick_true rfl rfl rfl ?_
      refine lst_nil ?_
      exact ex_cut (.cons (by first | (simp_all [look, inB]; done) | (simp_all [look, inB]; omega)) (by repeat (first | exact Sub.nil _ | refine Sub.cons rfl ?_))) (by repeat (first | exact List.Sublist.refl _ | exact List.nil_sublist _ | refine List.Sublist.cons_cons _ ?_ | refine List.Sublist.cons _ ?_))
    · skip
      refine lst_off rfl rfl rfl ?_
      refine lst_off rfl rfl rfl ?_
      refine lst_off rfl rfl rfl ?_
      refine lst_pick_false rfl rfl rfl ?_
      refine lst_nil ?_
      exact ex_cut (.cons (by first | (simp_all [look, inB]; done) | (simp_all [look, inB]; omega)) (by repeat (first | exact Sub.nil _ | refine Sub.cons rfl ?_))) (by repeat (first | exact List.Sublist.refl _ | exact List.nil_sublist _ | refine List.Sublist.cons_cons _ ?_ | refine List.Sublist.cons _ ?_))
  refine lst_assign rfl rfl ?_
  refine lst_nil ?_
  refine ex_then ?_
  refine cod_ret ?_
  refine ex_ret rfl (fun a w ha => res_one rfl rfl ha) (fun a w ha => ⟨by rfl, ha.grown (List.nil_sublist _)⟩)

theorem rcheck_c (A : Option Addr) (c : Nat) (l : List RA) (w : World) (hA : RdL RA.cells 5 w A l) : Calls Tryd.prog 47 #[.slice A l.length c] w fun e w' => e = .returned (.int .i64 ((checkR l : Nat) : Int)) ∧ Grew w w' [] := by
  refine enter (N := 50) [(0, .slice A l.length c)] Tryd.func47 rfl Tryd.ntmps47 rfl rfl ?_
  refine cod_seq ?_
  refine cod_region ?_
  refine lst_assign rfl rfl ?_
  refine lst_nil ?_
  refine ex_then ?_
  refine cod_seq ?_
  refine cod_seq ?_
  refine cod_region ?_
  refine lst_move rfl rfl ?_
  refine lst_len rfl rfl Tryd.underlying22 ?_
  refine lst_int rfl rfl rfl bin_gtr ?_
  refine lst_nil ?_
  refine ex_then ?_
  refine cod_cond_dec rfl (fun hc0 => ?_) (fun hc0 => ?_)
  · skip
    refine cod_seq ?_
    refine cod_region ?_
    refine lst_assign rfl rfl ?_
    refine lst_nil ?_
    refine ex_then ?_
    refine cod_ret ?_
    refine ex_then_ret ?_
    refine ex_ret rfl (fun a w ha => res_one rfl rfl ha) (fun a w ha => ⟨by rw [show checkR l = 6 from if_pos (by omega)]; rfl, ha.grown (List.nil_sublist _)⟩)
  · skip
    have hl4 : l.length ≤ 4 := by omega
    have hcr : checkR l = firstBad l := if_neg (by omega)
    refine cod_skip ?_
    refine ex_then ?_
    refine cod_seq ?_
    refine cod_seq ?_
    refine cod_region ?_
    refine lst_assign rfl rfl ?_
    refine lst_nil ?_
    refine ex_then ?_
    refine cod_block ?_
    refine cod_loop (G := Nat) (fun k => k ≤ l.length ∧ ∀ y ∈ l.take k, y.bad = 0) (fun k => l.length - k) (fun k => [(0, .slice A l.length c), (3, .int .i64 (k : Int))]) (fun k => []) 0 ⟨Nat.zero_le _, by simp⟩ (by repeat (first | exact Sub.nil _ | refine Sub.cons rfl ?_)) (by repeat (first | exact List.Sublist.refl _ | exact List.nil_sublist _ | refine List.Sublist.cons_cons _ ?_ | refine List.Sublist.cons _ ?_)) ?_
    intro k hk
    (try dsimp only at hk ⊢)
    refine cod_seq ?_
    refine cod_seq ?_
    refine cod_region ?_
    refine lst_move rfl rfl ?_
    refine lst_move rfl rfl ?_
    refine lst_len rfl rfl Tryd.underlying22 ?_
    refine lst_int rfl rfl rfl bin_lss ?_
    refine lst_nil ?_
    refine ex_then ?_
    refine cod_cond_dec rfl (fun hc1 => ?_) (fun hc1 => ?_)
    · skip
      have hk' : k < l.length := by omega
      obtain ⟨b, o, rfl, hb, hcell⟩ := hA (by omega)
      obtain ⟨x, hx⟩ : ∃ x, l[k]? = some x := ⟨_, List.getElem?_eq_getElem hk'⟩
      have hpos : x.bad ≠ 0 → checkR l = x.bad := by
        intro hne
        rw [hcr, ← List.take_append_drop k l, firstBad_pre hk.2, List.drop_eq_getElem_cons hk', firstBad]
        have : l[k] = x := by rw [List.getElem?_eq_getElem hk'] at hx; exact Option.some.inj hx
        rw [this, if_pos hne]
      refine cod_skip ?_
      refine ex_then ?_
      refine cod_seq ?_
      refine cod_block ?_
      refine cod_seq ?_
      refine cod_region ?_
      refine lst_move rfl rfl ?_
      refine lst_move rfl rfl ?_
      refine lst_index (j := k) rfl rfl rfl Tryd.underlying22 F.ti24 rfl hk' ?_
      refine lst_loadN_at (l := [.int .i64 x.needs, .int .i64 x.no, .int .i64 x.takes, .int .i64 x.leaves, .int .i64 x.cost]) rfl rfl F.agg24 F.ti24 rfl (fun a w ha j u hu => ha.old (hcell k x hx j u hu) hb) ?_
      refine lst_alloc rfl F.ti24 ?_
      intro b4
      refine lst_store rfl rfl F.ti24 rfl ?_
      refine lst_nil ?_
      refine ex_then ?_
      refine cod_seq ?_
      refine cod_seq ?_
      refine cod_region ?_
      refine lst_cut1 22 39 (.bool (!(allB x.four))) ?_ ?_
      · skip
        refine lst_field_z rfl rfl F.fi24_0 F.ti3 ?_
        refine lst_load rfl rfl F.one3 ?_
        refine lst_fn0 (vs := [_, _, _]) rfl rfl F.ent82 (fun a w ha => among_c x.needs 0 63 w) ?_
        refine lst_not rfl rfl ?_
        refine lst_move rfl rfl ?_
        refine lst_split_bool (t := 22) rfl (fun hg22 => ?_) (fun hg22 => ?_)
        · skip
          refine lst_off rfl rfl rfl ?_
          refine lst_off rfl rfl rfl ?_
          refine lst_off rfl rfl rfl ?_
          refine lst_off rfl rfl rfl ?_
          refine lst_pick_true rfl rfl rfl ?_
          refine lst_move rfl rfl ?_
          refine lst_split_bool (t := 28) rfl (fun hg28 => ?_) (fun hg28 => ?_)
          · skip
            refine lst_off rfl rfl rfl ?_
            refine lst_off rfl rfl rfl ?_
            refine lst_off rfl rfl rfl ?_
            refine lst_off rfl rfl rfl ?_
            refine lst_pick_true rfl rfl rfl ?_
            refine lst_move rfl rfl ?_
            refine lst_split_bool (t := 34) rfl (fun hg34 => ?_) (fun hg34 => ?_)
            · skip
              refine lst_off rfl rfl rfl ?_
              refine lst_off rfl rfl rfl ?_
              refine lst_off rfl rfl rfl ?_
              refine lst_off rfl rfl rfl ?_
              refine lst_pick_true rfl rfl rfl ?_
              refine lst_nil ?_
              exact ex_cut (.cons (by simp_all [look, allB, RA.four]) (by repeat (first | exact Sub.nil _ | refine Sub.cons rfl ?_))) (by repeat (first | exact List.Sublist.refl _ | exact List.nil_sublist _ | refine List.Sublist.cons_cons _ ?_ | refine List.Sublist.cons _ ?_))
            · skip
              refine lst_on rfl rfl ?_
              refine lst_field_z rfl rfl F.fi24_3 F.ti3 ?_
              refine lst_on rfl rfl ?_
              refine lst_load rfl rfl F.one3 ?_
              refine lst_on rfl rfl ?_
              refine lst_fn0 (vs := [_, _, _]) rfl rfl F.ent82 (fun a w ha => among_c x.leaves 0 63 w) ?_
              refine lst_on rfl rfl ?_
              refine lst_not rfl rfl ?_
              refine lst_pick_false rfl rfl rfl ?_
              refine lst_nil ?_
              exact ex_cut (.cons (by simp_all [look, allB, RA.four]) (by repeat (first | exact Sub.nil _ | refine Sub.cons rfl ?_))) (by repeat (first | exact List.Sublist.refl _ | exact List.nil_sublist _ | refine List.Sublist.cons_cons _ ?_ | refine List.Sublist.cons _ ?_))
          · skip
            refine lst_on rfl rfl ?_
            refine lst_field_z rfl rfl F.fi24_2 F.ti3 ?_
            refine lst_on rfl rfl ?_
            refine lst_load rfl rfl F.one3 ?_
            refine lst_on rfl rfl ?_
            refine lst_fn0 (vs := [_, _, _]) rfl rfl F.ent82 (fun a w ha => among_c x.takes 0 63 w) ?_
            refine lst_on rfl rfl ?_
            refine lst_not rfl rfl ?_
            refine lst_pick_false rfl rfl rfl ?_
            refine lst_move rfl rfl ?_
            refine lst_split_bool (t := 34) rfl (fun hg34 => ?_) (fun hg34 => ?_)
            · skip
              refine lst_off rfl rfl rfl ?_
              refine lst_off rfl rfl rfl ?_
              refine lst_off rfl rfl rfl ?_
              refine lst_off rfl rfl rfl ?_
              refine lst_pick_true rfl rfl rfl ?_
              refine lst_nil ?_
              exact ex_cut (.cons (by simp_all [look, allB, RA.four]) (by repeat (first | exact Sub.nil _ | refine Sub.cons rfl ?_))) (by repeat (first | exact List.Sublist.refl _ | exact List.nil_sublist _ | refine List.Sublist.cons_cons _ ?_ | refine List.Sublist.cons _ ?_))
            · skip
              refine lst_on rfl rfl ?_
              refine lst_field_z rfl rfl F.fi24_3 F.ti3 ?_
              refine lst_on rfl rfl ?_
              refine lst_load rfl rfl F.one3 ?_
              refine lst_on rfl rfl ?_
              refine lst_fn0 (vs := [_, _, _]) rfl rfl F.ent82 (fun a w ha => among_c x.leaves 0 63 w) ?_
              refine lst_on rfl rfl ?_
              refine lst_not rfl rfl ?_
              refine lst_pick_false rfl rfl rfl ?_
              refine lst_nil ?_
              exact ex_cut (.cons (by simp_all [look, allB, RA.four]) (by repeat (first | exact Sub.nil _ | refine Sub.cons rfl ?_))) (by repeat (first | exact List.Sublist.refl _ | exact List.nil_sublist _ | refine List.Sublist.cons_cons _ ?_ | refine List.Sublist.cons _ ?_))
        · skip
          refine lst_on rfl rfl ?_
          refine lst_field_z rfl rfl F.fi24_1 F.ti3 ?_
          refine lst_on rfl rfl ?_
          refine lst_load rfl rfl F.one3 ?_
          refine lst_on rfl rfl ?_
          refine lst_fn0 (vs := [_, _, _]) rfl rfl F.ent82 (fun a w ha => among_c x.no 0 63 w) ?_
          refine lst_on rfl rfl ?_
          refine lst_not rfl rfl ?_
          refine lst_pick_false rfl rfl rfl ?_
          refine lst_move rfl rfl ?_
          refine lst_split_bool (t := 28) rfl (fun hg28 => ?_) (fun hg28 => ?_)
          · skip
            refine lst_off rfl rfl rfl ?_
            refine lst_off rfl rfl rfl ?_
            refine lst_off rfl rfl rfl ?_
            refine lst_off rfl rfl rfl ?_
            refine lst_pick_true rfl rfl rfl ?_
            refine lst_move rfl rfl ?_
            refine lst_split_bool (t := 34) rfl (fun hg34 => ?_) (fun hg34 => ?_)
            · skip
              refine lst_off rfl rfl rfl ?_
              refine lst_off rfl rfl rfl ?_
              refine lst_off rfl rfl rfl ?_
              refine lst_off rfl rfl rfl ?_
              refine lst_pick_true rfl rfl rfl ?_
              refine lst_nil ?_
              exact ex_cut (.cons (by simp_all [look, allB, RA.four]) (by repeat (first | exact Sub.nil _ | refine Sub.cons rfl ?_))) (by repeat (first | exact List.Sublist.refl _ | exact List.nil_sublist _ | refine List.Sublist.cons_cons _ ?_ | refine List.Sublist.cons _ ?_))
            · skip
              refine lst_on rfl rfl ?_
              refine lst_field_z rfl rfl F.fi24_3 F.ti3 ?_
              refine lst_on rfl rfl ?_
              refine lst_load rfl rfl F.one3 ?_
              refine lst_on rfl rfl ?_
              refine lst_fn0 (vs := [_, _, _]) rfl rfl F.ent82 (fun a w ha => among_c x.leaves 0 63 w) ?_
              refine lst_on rfl rfl ?_
              refine lst_not rfl rfl ?_
              refine lst_pick_false rfl rfl rfl ?_
              refine lst_nil ?_
              exact ex_cut (.cons (by simp_all [look, allB, RA.four]) (by repeat (first | exact Sub.nil _ | refine Sub.cons rfl ?_))) (by repeat (first | exact List.Sublist.refl _ | exact List.nil_sublist _ | refine List.Sublist.cons_cons _ ?_ | refine List.Sublist.cons _ ?_))
          · skip
            refine lst_on rfl rfl ?_
            refine lst_field_z rfl rfl F.fi24_2 F.ti3 ?_
            refine lst_on rfl rfl ?_
            refine lst_load rfl rfl F.one3 ?_
            refine lst_on rfl rfl ?_
            refine lst_fn0 (vs := [_, _, _]) rfl rfl F.ent82 (fun a w ha => among_c x.takes 0 63 w) ?_
            refine lst_on rfl rfl ?_
            refine lst_not rfl rfl ?_
            refine lst_pick_false rfl rfl rfl ?_
            refine lst_move rfl rfl ?_
            refine lst_split_bool (t := 34) rfl (fun hg34 => ?_) (fun hg34 => ?_)
            · skip
              refine lst_off rfl rfl rfl ?_
              refine lst_off rfl rfl rfl ?_
              refine lst_off rfl rfl rfl ?_
              refine lst_off rfl rfl rfl ?_
              refine lst_pick_true rfl rfl rfl ?_
              refine lst_nil ?_
              exact ex_cut (.cons (by simp_all [look, allB, RA.four]) (by repeat (first | exact Sub.nil _ | refine Sub.cons rfl ?_))) (by repeat (first | exact List.Sublist.refl _ | exact List.nil_sublist _ | refine List.Sublist.cons_cons _ ?_ | refine List.Sublist.cons _ ?_))
            · skip
              refine lst_on rfl rfl ?_
              refine lst_field_z rfl rfl F.fi24_3 F.ti3 ?_
              refine lst_on rfl rfl ?_
              refine lst_load rfl rfl F.one3 ?_
              refine lst_on rfl rfl ?_
              refine lst_fn0 (vs := [_, _, _]) rfl rfl F.ent82 (fun a w ha => among_c x.leaves 0 63 w) ?_
              refine lst_on rfl rfl ?_
              refine lst_not rfl rfl ?_
              refine lst_pick_false rfl rfl rfl ?_
              refine lst_nil ?_
              exact ex_cut (.cons (by simp_all [look, allB, RA.four]) (by repeat (first | exact Sub.nil _ | refine Sub.cons rfl ?_))) (by repeat (first | exact List.Sublist.refl _ | exact List.nil_sublist _ | refine List.Sublist.cons_cons _ ?_ | refine List.Sublist.cons _ ?_))
      refine lst_nil ?_
      refine ex_then ?_
      refine cod_cond_bool rfl (fun hc2 => ?_) (fun hc2 => ?_)
      · skip
        refine cod_seq ?_
        refine cod_region ?_
        refine lst_assign rfl rfl ?_
        refine lst_nil ?_
        refine ex_then ?_
        refine cod_ret ?_
        refine ex_then_ret ?_
        refine ex_block_ret ?_
        refine ex_then_ret ?_
        refine ex_then_ret ?_
        refine ex_block_ret ?_
        refine ex_then_ret ?_
        have hb1 : x.bad = 1 := if_pos (by simpa using hc2)
        refine ex_ret rfl (fun a w ha => res_one rfl rfl ha) (fun a w ha => ⟨by rw [hpos (by omega), hb1]; rfl, ha.grown (List.nil_sublist _)⟩)
      · skip
        have h4 : allB x.four = true := by simpa using hc2
        have h4' := h4
        simp only [allB, RA.four, List.all_cons, List.all_nil, Bool.and_true, Bool.and_eq_true, inB_true] at h4'
        obtain ⟨n1, hn1⟩ := Int.eq_ofNat_of_zero_le h4'.1.1
        obtain ⟨n2, hn2⟩ := Int.eq_ofNat_of_zero_le h4'.2.1.1
        have hn1' : n1 < 64 := by omega
        have hn2' : n2 < 64 := by omega
        have hbad : x.bad = if n1 &&& n2 ≠ 0 then 9 else if inB x.cost 1 9 = false then 1 else 0 := by
          unfold RA.bad
          rw [if_neg (by rw [h4]; simp), hn1, hn2, Int.toNat_natCast, Int.toNat_natCast]
        rw [hn1, hn2]
        refine cod_skip ?_
        refine ex_then ?_
        refine cod_seq ?_
        refine cod_seq ?_
        refine cod_region ?_
        refine lst_field_z rfl rfl F.fi24_0 F.ti3 ?_
        refine lst_load rfl rfl F.one3 ?_
        refine lst_field_z rfl rfl F.fi24_1 F.ti3 ?_
        refine lst_load rfl rfl F.one3 ?_
        refine lst_int rfl rfl rfl (fun w => bin_and w (i64_and n1 n2 (by omega) (by omega))) ?_
        refine lst_int rfl rfl rfl bin_neq ?_
        refine lst_nil ?_
        refine ex_then ?_
        refine cod_cond_dec rfl (fun hc3 => ?_) (fun hc3 => ?_)
        · skip
          refine cod_seq ?_
          refine cod_region ?_
          refine lst_assign rfl rfl ?_
          refine lst_nil ?_
          refine ex_then ?_
          refine cod_ret ?_
          refine ex_then_ret ?_
          refine ex_block_ret ?_
          refine ex_then_ret ?_
          refine ex_then_ret ?_
          refine ex_block_ret ?_
          refine ex_then_ret ?_
          have hb9 : x.bad = 9 := by rw [hbad, if_pos (by omega)]
          refine ex_ret rfl (fun a w ha => res_one rfl rfl ha) (fun a w ha => ⟨by rw [hpos (by omega), hb9]; rfl, ha.grown (List.nil_sublist _)⟩)
        · skip
          have h5 : ¬ (n1 &&& n2 ≠ 0) := by omega
          rw [if_neg h5] at hbad
          refine cod_skip ?_
          refine ex_then ?_
          refine cod_seq ?_
          refine cod_region ?_
          refine lst_field_z rfl rfl F.fi24_4 F.ti3 ?_
          refine lst_load rfl rfl F.one3 ?_
          refine lst_fn0 (vs := [_, _, _]) rfl rfl F.ent82 (fun a w ha => among_c x.cost 1 9 w) ?_
          refine lst_not rfl rfl ?_
          refine lst_nil ?_
          refine ex_then ?_
          refine cod_cond_bool rfl (fun hc4 => ?_) (fun hc4 => ?_)
          · skip
            refine cod_seq ?_
            refine cod_region ?_
            refine lst_assign rfl rfl ?_
            refine lst_nil ?_
            refine ex_then ?_
            refine cod_ret ?_
            refine ex_block_ret ?_
            refine ex_then_ret ?_
            refine ex_then_ret ?_
            refine ex_block_ret ?_
            refine ex_then_ret ?_
            have hb1 : x.bad = 1 := by rw [hbad, if_pos (by simpa using hc4)]
            refine ex_ret rfl (fun a w ha => res_one rfl rfl ha) (fun a w ha => ⟨by rw [hpos (by omega), hb1]; rfl, ha.grown (List.nil_sublist _)⟩)
          · skip
            have hb0 : x.bad = 0 := by rw [hbad, if_neg (by simpa using hc4)]
            have htake : l.take (k + 1) = l.take k ++ [x] := by rw [List.take_add_one, hx]; rfl
            refine cod_skip ?_
            refine ex_block_normal ?_
            refine ex_then ?_
            refine cod_region ?_
            refine lst_move rfl rfl ?_
            refine lst_int rfl rfl rfl (fun w => bin_add w (wrap_i64' _ (by omega) (by omega))) ?_
            refine lst_assign rfl rfl ?_
            refine lst_nil ?_
            refine ex_round (k + 1) ⟨by omega, by rw [htake]; intro y hy; rcases List.mem_append.1 hy with h | h; exact hk.2 y h; simp at h; subst h; exact hb0⟩ (by (try dsimp only); omega) (by repeat (first | exact Sub.nil _ | refine Sub.cons rfl ?_)) (by repeat (first | exact List.Sublist.refl _ | exact List.nil_sublist _ | refine List.Sublist.cons_cons _ ?_ | refine List.Sublist.cons _ ?_))
    · skip
      refine cod_exit ?_
      refine ex_then_exit ?_
      refine ex_then_exit ?_
      refine ex_block_exit ?_
      refine ex_then ?_
      refine cod_seq ?_
      refine cod_region ?_
      refine lst_assign rfl rfl ?_
      refine lst_nil ?_
      refine ex_then ?_
      refine cod_ret ?_
      have hz : checkR l = 0 := by
        have h := hk.2
        rw [List.take_of_length_le (by omega)] at h
        rw [hcr, ← List.append_nil l, firstBad_pre h]; rfl
      refine ex_ret rfl (fun a w ha => res_one rfl rfl ha) (fun a w ha => ⟨by rw [hz]; rfl, ha.grown (List.nil_sublist _)⟩)

theorem asked_c (A : Option Addr) (c : Nat) (l : List RA) (m p : Int) (w : World) (hA : RdL RA.cells 5 w A l) : Calls Tryd.prog 86 #[.slice A l.length c, .int .i64 m, .int .i64 p] w fun e w' => e = .returned (.int .i64 ((askedR l m p : Nat) : Int)) ∧ Grew w w' [] := by
  refine enter (N := 21) [(0, .slice A l.length c), (1, .int .i64 m), (2, .int .i64 p)] Tryd.func86 rfl Tryd.ntmps86 rfl rfl ?_
  refine cod_seq ?_
  refine cod_region ?_
  refine lst_assign rfl rfl ?_
  refine lst_nil ?_
  refine ex_then ?_
  refine cod_seq ?_
  refine cod_seq ?_
  refine cod_region ?_
  refine lst_move rfl rfl ?_
  refine lst_fn0 (vs := [_]) rfl rfl F.ent47 (fun a w ha => rcheck_c A c l w (hA.later ha.below)) ?_
  refine lst_assign rfl rfl ?_
  refine lst_nil ?_
  refine ex_then ?_
  refine cod_seq ?_
  refine cod_region ?_
  refine lst_move rfl rfl ?_
  refine lst_int rfl rfl rfl bin_neq ?_
  refine lst_nil ?_
  refine ex_then ?_
  refine cod_cond_dec rfl (fun hc0 => ?_) (fun hc0 => ?_)
  · skip
    have hc : ¬ checkR l = 0 := by omega
    refine cod_seq ?_
    refine cod_region ?_
    refine lst_move rfl rfl ?_
    refine lst_assign rfl rfl ?_
    refine lst_nil ?_
    refine ex_then ?_
    refine cod_ret ?_
    refine ex_then_ret ?_
    refine ex_ret rfl (fun a w ha => res_one rfl rfl ha) (fun a w ha => ⟨by rw [show askedR l m p = checkR l from if_pos hc], ha.grown (List.nil_sublist _)⟩)
  · skip
    have hc : ¬ ¬ checkR l = 0 := by omega
    refine cod_skip ?_
    refine ex_then ?_
    refine cod_seq ?_
    refine cod_seq ?_
    refine cod_region ?_
    refine lst_cut1 8 20 (.bool (!(inB m 0 63 && inB p 0 63))) ?_ ?_
    · skip
      refine lst_move rfl rfl ?_
      refine lst_fn0 (vs := [_, _, _]) rfl rfl F.ent82 (fun a w ha => among_c m 0 63 w) ?_
      refine lst_not rfl rfl ?_
      refine lst_move rfl rfl ?_
      refine lst_split_bool (t := 16) rfl (fun hg16 => ?_) (fun hg16 => ?_)
      · skip
        refine lst_off rfl rfl rfl ?_
        refine lst_off rfl rfl rfl ?_
        refine lst_off rfl rfl rfl ?_
        refine lst_pick_true rfl rfl rfl ?_
        refine lst_nil ?_
        exact ex_cut (.cons (by simp_all [look]) (by repeat (first | exact Sub.nil _ | refine Sub.cons rfl ?_))) (by repeat (first | exact List.Sublist.refl _ | exact List.nil_sublist _ | refine List.Sublist.cons_cons _ ?_ | refine List.Sublist.cons _ ?_))
      · skip
        refine lst_on rfl rfl ?_
        refine lst_move rfl rfl ?_
        refine lst_on rfl rfl ?_
        refine lst_fn0 (vs := [_, _, _]) rfl rfl F.ent82 (fun a w ha => among_c p 0 63 w) ?_
        refine lst_on rfl rfl ?_
        refine lst_not rfl rfl ?_
        refine lst_pick_false rfl rfl rfl ?_
        refine lst_nil ?_
        exact ex_cut (.cons (by simp_all [look]) (by repeat (first | exact Sub.nil _ | refine Sub.cons rfl ?_))) (by repeat (first | exact List.Sublist.refl _ | exact List.nil_sublist _ | refine List.Sublist.cons_cons _ ?_ | refine List.Sublist.cons _ ?_))
    refine lst_nil ?_
    refine ex_then ?_
    refine cod_cond_bool rfl (fun hc1 => ?_) (fun hc1 => ?_)
    · skip
      have he : askedR l m p = 1 := by unfold askedR; rw [if_neg hc, if_neg (by intro h; rw [h] at hc1; cases hc1)]
      refine cod_seq ?_
      refine cod_region ?_
      refine lst_assign rfl rfl ?_
      refine lst_nil ?_
      refine ex_then ?_
      refine cod_ret ?_
      refine ex_then_ret ?_
      refine ex_ret rfl (fun a w ha => res_one rfl rfl ha) (fun a w ha => ⟨by rw [he]; rfl, ha.grown (List.nil_sublist _)⟩)
    · skip
      have he : askedR l m p = 0 := by unfold askedR; rw [if_neg hc, if_pos (by cases h : (inB m 0 63 && inB p 0 63) with | true => rfl | false => rw [h] at hc1; cases hc1)]
      refine cod_skip ?_
      refine ex_then ?_
      refine cod_seq ?_
      refine cod_region ?_
      refine lst_assign rfl rfl ?_
      refine lst_nil ?_
      refine ex_then ?_
      refine cod_ret ?_
      refine ex_ret rfl (fun a w ha => res_one rfl rfl ha) (fun a w ha => ⟨by rw [he]; rfl, ha.grown (List.nil_sublist _)⟩)

theorem rmay_c (x : Ag) (f : Nat) (hx : x.ok) (hf : f < 64) (w : World) : Calls Tryd.prog 97 #[.agg [.int .i64 (x.needs : Int), .int .i64 (x.no : Int), .int .i64 (x.takes : Int), .int .i64 (x.leaves : Int), .int .i64 (x.cost : Int)].toArray, .int .i64 (f : Int)] w fun e w' => e = .returned (.bool (mayN x f)) ∧ Grew w w' [] := by
  have h1 := hx.needs; have h2 := hx.no; clear hx
  refine enter (N := 19) [(0, .agg [.int .i64 (x.needs : Int), .int .i64 (x.no : Int), .int .i64 (x.takes : Int), .int .i64 (x.leaves : Int), .int .i64 (x.cost : Int)].toArray), (1, .int .i64 (f : Int))] Tryd.func97 rfl Tryd.ntmps97 rfl rfl ?_
  refine cod_seq ?_
  refine cod_region ?_
  refine lst_box rfl rfl ?_
  intro b2
  refine lst_assign rfl rfl ?_
  refine lst_nil ?_
  refine ex_then ?_
  refine cod_seq ?_
  refine cod_region ?_
  refine lst_cut1 14 18 (.bool (mayN x f)) ?_ ?_
  · skip
    refine lst_move rfl rfl ?_
    refine lst_field_z rfl rfl F.fi24_0 F.ti3 ?_
    refine lst_load rfl rfl F.one3 ?_
    refine lst_int rfl rfl rfl (fun w => bin_and w (i64_and f x.needs (by omega) (by omega))) ?_
    refine lst_field_z rfl rfl F.fi24_0 F.ti3 ?_
    refine lst_load rfl rfl F.one3 ?_
    refine lst_int rfl rfl rfl bin_eql ?_
    refine lst_move rfl rfl ?_
    refine lst_split (t := 12) rfl (fun hg12 => ?_) (fun hg12 => ?_)
    · skip
      refine lst_on rfl rfl ?_
      refine lst_move rfl rfl ?_
      refine lst_on rfl rfl ?_
      refine lst_field_z rfl rfl F.fi24_1 F.ti3 ?_
      refine lst_on rfl rfl ?_
      refine lst_load rfl rfl F.one3 ?_
      refine lst_on rfl rfl ?_
      refine lst_int rfl rfl rfl (fun w => bin_and w (i64_and f x.no (by omega) (by omega))) ?_
      refine lst_on rfl rfl ?_
      refine lst_int rfl rfl rfl bin_eql ?_
      refine lst_pick_true rfl rfl rfl ?_
      refine lst_nil ?_
      exact ex_cut (.cons (by first | (rw [may_and]; simp [look, hg12]; omega) | (rw [may_and]; simp [look, hg12]) | (rw [may_and]; simp_all [look]; omega)) (by repeat (first | exact Sub.nil _ | refine Sub.cons rfl ?_))) (by repeat (first | exact List.Sublist.refl _ | exact List.nil_sublist _ | refine List.Sublist.cons_cons _ ?_ | refine List.Sublist.cons _ ?_))
    · skip
      refine lst_off rfl rfl rfl ?_
      refine lst_off rfl rfl rfl ?_
      refine lst_off rfl rfl rfl ?_
      refine lst_off rfl rfl rfl ?_
      refine lst_off rfl rfl rfl ?_
      refine lst_pick_false rfl rfl rfl ?_
      refine lst_nil ?_
      exact ex_cut (.cons (by first | (rw [may_and]; simp [look, hg12]; omega) | (rw [may_and]; simp [look, hg12]) | (rw [may_and]; simp_all [look]; omega)) (by repeat (first | exact Sub.nil _ | refine Sub.cons rfl ?_))) (by repeat (first | exact List.Sublist.refl _ | exact List.nil_sublist _ | refine List.Sublist.cons_cons _ ?_ | refine List.Sublist.cons _ ?_))
  refine lst_assign rfl rfl ?_
  refine lst_nil ?_
  refine ex_then ?_
  refine cod_ret ?_
  refine ex_ret rfl (fun a w ha => res_one rfl rfl ha) (fun a w ha => ⟨by rfl, ha.grown (List.nil_sublist _)⟩)

theorem rafter_c (x : Ag) (f : Nat) (hx : x.ok) (hf : f < 64) (w : World) : Calls Tryd.prog 94 #[.agg [.int .i64 (x.needs : Int), .int .i64 (x.no : Int), .int .i64 (x.takes : Int), .int .i64 (x.leaves : Int), .int .i64 (x.cost : Int)].toArray, .int .i64 (f : Int)] w fun e w' => e = .returned (.int .i64 ((putN x f : Nat) : Int)) ∧ Grew w w' [] := by
  have h1 := hx.takes; have h2 := hx.leaves; clear hx
  refine enter (N := 12) [(0, .agg [.int .i64 (x.needs : Int), .int .i64 (x.no : Int), .int .i64 (x.takes : Int), .int .i64 (x.leaves : Int), .int .i64 (x.cost : Int)].toArray), (1, .int .i64 (f : Int))] Tryd.func94 rfl Tryd.ntmps94 rfl rfl ?_
  refine cod_seq ?_
  refine cod_region ?_
  refine lst_box rfl rfl ?_
  intro b2
  refine lst_assign rfl rfl ?_
  refine lst_nil ?_
  refine ex_then ?_
  refine cod_seq ?_
  refine cod_region ?_
  refine lst_move rfl rfl ?_
  refine lst_field_z rfl rfl F.fi24_2 F.ti3 ?_
  refine lst_load rfl rfl F.one3 ?_
  refine lst_int rfl rfl rfl (fun w => bin_andNot w (i64_andNot f x.takes (by omega) (by omega))) ?_
  refine lst_field_z rfl rfl F.fi24_3 F.ti3 ?_
  refine lst_load rfl rfl F.one3 ?_
  have h3 : nn f x.takes < 64 := nn64 hf
  refine lst_int rfl rfl rfl (fun w => bin_or w (i64_or (nn f x.takes) x.leaves (by omega) (by omega))) ?_
  refine lst_assign rfl rfl ?_
  refine lst_nil ?_
  refine ex_then ?_
  refine cod_ret ?_
  refine ex_ret rfl (fun a w ha => res_one rfl rfl ha) (fun a w ha => ⟨by rfl, ha.grown (List.nil_sublist _)⟩)

end Go.Proofs.YtofkhehcnfiopaaDoor.N
namespace Go.Proofs.YtofkhehcnfiopaaDoor.N
open Go Go.RowKit Go.Proofs
/-- A slice that reads as a list wherever some things are held. -/
def Rds {α : Type} (cells : α → List Value) (size : Nat) (C : Ctx) (T : List Res) (A : Option Addr) (l : List α) : Prop :=
  ∀ (C' : Ctx) (fr : List (Nat × Value)) (hp : List Res) (a : Act) (w : World), At C' fr hp a w → C'.P = C.P → C'.B = C.B → C'.w0 = C.w0 → (∀ r ∈ T, r ∈ hp) → RdL cells size w A l
theorem Rds.row {α : Type} {cells : α → List Value} {size : Nat} {C : Ctx} {T : List Res} {A : Option Addr} {l : List α} {e c : Nat} (hs : ∀ x, (cells x).length = size) (h : Res.row e size A l.length c (l.flatMap cells) ∈ T) : Rds cells size C T A l :=
  fun _ _ _ _ _ ha _ _ _ hm => row_reads ha hs (hm _ h) rfl
theorem Rds.blk {α : Type} {cells : α → List Value} {size : Nat} {C : Ctx} {T : List Res} {b ct : Nat} {l : List α} (hs : ∀ x, (cells x).length = size) (h : Res.blk b (.cells (l.flatMap cells).toArray ct (0, 0)) ∈ T) : Rds cells size C T (some ⟨b, 0, none⟩) l := by
  intro C' fr hp a w ha _ _ _ hm _
  refine ⟨b, 0, rfl, (Res.lt (ha.own _ (hm _ h)) b rfl).2, fun k x hk j u hu => ?_⟩
  rw [Nat.zero_add]
  exact cell_of_blk (ha.mem_blk (hm _ h)) (flatMap_get hs l k x hk j u hu)
theorem Rds.old {α : Type} {cells : α → List Value} {size : Nat} {C : Ctx} {T : List Res} {A : Option Addr} {l : List α} (h : RdL cells size C.w0 A l) (hB : C.w0.heap.size = C.B) : Rds cells size C T A l := by
  intro C' fr hp a w ha _ h2 h3 _ hl
  obtain ⟨b, o, e1, e2, e3⟩ := h hl
  have hbB : b < C'.B := by rw [h2, ← hB]; exact e2
  refine ⟨b, o, e1, ?_, fun k x hk j u hu => ?_⟩
  · have h4 := ha.below.size
    rw [h3] at h4
    omega
  · exact ha.old (by rw [h3]; exact e3 k x hk j u hu) hbB
/-- What becomes of a melt along a way; else the error. -/
def alongE (ags : List Ag) : Nat → List Int → Except Nat (List Nat)
  | _, [] => .ok []
  | f, n :: l => if inB n 0 ((ags.length : Int) - 1) = false then .error 3 else if mayN (ags.getD n.toNat default) f = false then .error 12 else (alongE ags (putN (ags.getD n.toNat default) f) l).map (putN (ags.getD n.toNat default) f :: ·)
/-- The outs so far, and what is still to come. -/
def goesOn (outs : List Nat) (r : Except Nat (List Nat)) : Except Nat (List Nat) := r.map (outs ++ ·)
theorem goesOn_nil (r : Except Nat (List Nat)) : goesOn [] r = r := by cases r <;> rfl
theorem alongE_step {ags : List Ag} {f k : Nat} {n : Int} {way : List Int} (hn : way[k]? = some n) : alongE ags f (way.drop k) = if inB n 0 ((ags.length : Int) - 1) = false then .error 3 else if mayN (ags.getD n.toNat default) f = false then .error 12 else (alongE ags (putN (ags.getD n.toNat default) f) (way.drop (k + 1))).map (putN (ags.getD n.toNat default) f :: ·) := by
  obtain ⟨hk, he⟩ := List.getElem?_eq_some_iff.1 hn
  rw [List.drop_eq_getElem_cons hk, he]
  rfl
theorem goesOn_step (outs : List Nat) (x : Nat) (r : Except Nat (List Nat)) : goesOn outs (r.map (x :: ·)) = goesOn (outs ++ [x]) r := by
  cases r with
  | error c => rfl
  | ok l =>
    show Except.ok (outs ++ (x :: l)) = Except.ok ((outs ++ [x]) ++ l)
    rw [List.append_assoc]; rfl
end Go.Proofs.YtofkhehcnfiopaaDoor.N
namespace Go.Proofs.YtofkhehcnfiopaaDoor.N
open Go Go.RowKit Go.Proofs
/-- What Put says. -/
def PutS (ags : List Ag) (f : Nat) (way : List Int) (outs : List Nat) (E : Nat) : Prop :=
  (way.length ≤ 20 ∧ alongE ags f way = .ok outs ∧ E = 0 ∧ outs.length = way.length) ∨ (way.length ≤ 20 ∧ alongE ags f way = .error E ∧ (E = 3 ∨ E = 12) ∧ outs = []) ∨ (20 < way.length ∧ E = 6 ∧ outs = [])
theorem PutS.len {ags : List Ag} {f E : Nat} {way : List Int} {outs : List Nat} (h : PutS ags f way outs E) : outs.length ≤ 20 := by
  rcases h with ⟨h1, _, _, h4⟩ | ⟨_, _, _, rfl⟩ | ⟨_, _, rfl⟩
  · omega
  · simp
  · simp
end Go.Proofs.YtofkhehcnfiopaaDoor.N
namespace Go.Proofs.YtofkhehcnfiopaaDoor.N
open Go Go.RowKit Go.Proofs
theorem F.ent94 : Enters Tryd.prog 94 := enters_of Tryd.func94 rfl (by kernel_rfl)
end Go.Proofs.YtofkhehcnfiopaaDoor.N
namespace Go.Proofs.YtofkhehcnfiopaaDoor.N
open Go Go.RowKit Go.Proofs
def castL (l : List Nat) : List Int := l.map fun (n : Nat) => (n : Int)
def lastN (m : Nat) (l : List Nat) : Nat := l.getLast?.getD m
theorem lastN_snoc (m : Nat) (l : List Nat) (x : Nat) : lastN m (l ++ [x]) = x := by
  unfold lastN
  simp
theorem castL_len (l : List Nat) : (castL l).length = l.length := List.length_map ..
theorem castL_get {l : List Nat} {i x : Nat} (h : l[i]? = some x) : (castL l)[i]? = some (x : Int) := by
  unfold castL
  rw [List.getElem?_map, h]; rfl
/-- The law's own way through the list. -/
structure Wlk (ags : List Ag) (m : Nat) (W : List Nat) (i now due : Nat) : Prop where
  lt : now < 64
  go : due = 0 → ∃ pre, pre.length = i ∧ lastN m pre = now ∧ alongE ags m (castL W) = goesOn pre (alongE ags now ((castL W).drop i))
  bad : due ≠ 0 → (due = 3 ∨ due = 12) ∧ alongE ags m (castL W) = .error due
theorem Wlk.zero {ags : List Ag} {m : Nat} {W : List Nat} (hm : m < 64) : Wlk ags m W 0 m 0 := ⟨hm, fun _ => ⟨[], rfl, rfl, by rw [goesOn_nil]; rfl⟩, fun h => absurd rfl h⟩
theorem Wlk.next {ags : List Ag} {m now i x : Nat} {W : List Nat} (hok : Oks ags) (h : Wlk ags m W i now 0) (hx : W[i]? = some x) (hb : x < ags.length) (hm : mayN (ags.getD x default) now = true) : Wlk ags m W (i + 1) (putN (ags.getD x default) now) 0 := by
  obtain ⟨pre, h1, h2, h3⟩ := h.go rfl
  rw [alongE_step (castL_get hx), if_neg (by rw [Bool.not_eq_false, inB_true]; omega), Int.toNat_natCast, if_neg (by rw [hm]; simp), goesOn_step] at h3
  exact ⟨putN_lt (agd_ok hok hb) h.lt, fun _ => ⟨_, by rw [List.length_append, h1]; rfl, lastN_snoc _ _ _, h3⟩, fun e => absurd rfl e⟩
/-- What the law finds agrees with Put. -/
theorem Wlk.ends {ags : List Ag} {m now i due E : Nat} {W outs : List Nat} (h : Wlk ags m W i now due) (hput : PutS ags m (castL W) outs E) (hi : i ≤ W.length) (hend : (decide ((i : Int) < (W.length : Int)) && decide ((due : Int) = 0)) = false) (h20 : W.length ≤ 20) :
    E = due ∧ (due ≠ 0 → outs = []) ∧ (due = 0 → lastN m outs = now ∧ outs.length = W.length ∧ alongE ags m (castL W) = .ok outs) := by
  have hwl := castL_len W
  by_cases hd : due = 0
  · subst hd
    obtain ⟨pre, h1, h2, h3⟩ := h.go rfl
    simp at hend
    obtain rfl : i = W.length := by omega
    rw [show (castL W).drop W.length = [] by rw [← hwl, List.drop_length]] at h3
    have h4 : alongE ags m (castL W) = .ok pre := by rw [h3]; show Except.ok (pre ++ []) = _; rw [List.append_nil]
    rcases hput with ⟨_, g1, g2, g3⟩ | ⟨_, g1, _⟩ | ⟨g1, _⟩
    · rw [h4] at g1
      obtain rfl := Except.ok.inj g1
      exact ⟨g2, fun e => absurd rfl e, fun _ => ⟨h2, by omega, h4⟩⟩
    · rw [h4] at g1; cases g1
    · omega
  · obtain ⟨_, h2⟩ := h.bad hd
    rcases hput with ⟨_, g1, _⟩ | ⟨_, g1, _, g3⟩ | ⟨g1, _⟩
    · rw [h2] at g1; cases g1
    · rw [h2] at g1
      exact ⟨(Except.error.inj g1).symm, fun _ => g3, fun e => absurd e hd⟩
    · omega
theorem PutS.ok {ags : List Ag} {f E : Nat} {way : List Int} {outs o : List Nat} (h : PutS ags f way outs E) (hl : way.length ≤ 20) (ho : alongE ags f way = .ok o) : E = 0 ∧ outs = o := by
  rcases h with ⟨_, g1, g2, _⟩ | ⟨_, g1, _⟩ | ⟨g1, _⟩
  · rw [ho] at g1
    exact ⟨g2, (Except.ok.inj g1).symm⟩
  · rw [ho] at g1; cases g1
  · omega
theorem PutS.long {ags : List Ag} {f E : Nat} {way : List Int} {outs : List Nat} (h : PutS ags f way outs E) (hl : 20 < way.length) : E = 6 ∧ outs = [] := by
  rcases h with ⟨g, _⟩ | ⟨g, _⟩ | ⟨_, g⟩
  · omega
  · omega
  · exact g
end Go.Proofs.YtofkhehcnfiopaaDoor.N
namespace Go.Proofs.YtofkhehcnfiopaaDoor.N
open Go Go.RowKit Go.Proofs
/-- Nothing is appended to a row. -/
theorem lst_append_row_nil {C : Ctx} {fr : List (Nat × Value)} {hp : List Res} {ops : Array Oper} {Q : Exit → Act → World → Prop} {rest : List Oper} {d : Nat} {ty : TypeId} {pos : String} {after : Array Edge}
    {x y : Operand} {t e e' : TypeId} {A : Option Addr} {n n' c c' sz size bytes : Nat} {xs : List Value} {z : Value} (hd : Nat.blt d C.N = true)
    (hx : ev fr x = some (.slice A n c)) (hy : ev fr y = some (.slice none 0 0)) (ht : C.P.underlying t = some (.slice e)) (hi : TI C.P e z size bytes) [hr : InR A e' sz n' c' xs hp] (hn : n' = n) (hc : c' = c)
    (k : Lst C ops Q rest ((d, .slice A n c) :: fr) hp) :
    Lst C ops Q (⟨some d, .call { callee := .builtin .append, args := #[x, y], argTypes := #[t, t] }, ty, pos, after, none⟩ :: rest) fr hp := by
  subst hn; subst hc
  obtain ⟨i, hi1, hi2, hi3, hi4⟩ := hi
  refine lst_value _ hd (fun a w ha => ⟨w, ?_, ha⟩) k
  have hr' : (Builtin.append_ #[t, t] ty #[.slice A n' c', .slice none 0 0]).run C.P w = .ok (.slice A n' c') w := by
    cases A with
    | none =>
      obtain ⟨h1, h2⟩ := row_none ha hr.mem rfl
      subst h1; subst h2
      simp [Builtin.append_, run_underlying ht, sizeOf, typeInfo, hi1, Builtin.lenOf, run_firstCells_none, storeCells]
    | some p =>
      have hnc := ha.cap_le hr.mem
      simp [Builtin.append_, run_underlying ht, sizeOf, typeInfo, hi1, Builtin.lenOf, hnc, run_firstCells_none, storeCells]
  simp only [execOp, resolve, invoke, builtin, Sem.run_bind, Sem.run_pure, Result.andThen_ok, List.map_toArray, List.map_cons, List.map_nil, ha.eval hx, ha.eval hy, hr']
end Go.Proofs.YtofkhehcnfiopaaDoor.N
namespace Go.Proofs.YtofkhehcnfiopaaDoor.N
open Go Go.RowKit Go.Proofs
section
variable {C : Ctx} {fr : List (Nat × Value)} {hp hp' : List Res} {a : Act} {w : World} {ops : Array Oper} {Q : Exit → Act → World → Prop} {rest : List Oper}
  {d : Nat} {ty : TypeId} {pos : String} {after : Array Edge}
/-- The ways out of a region that may panic. -/
def OnlyP (Q : Exit → Act → World → Prop) : Exit → Act → World → Prop
  | .normal, a, w => Q .normal a w
  | .panic ch, a, w => Q (.panic ch) a w
  | _, _, _ => False
theorem ex_only_panic {ch : List PanicEntry} (h : Ex C Q (.panic ch) fr hp) : Ex C (OnlyP Q) (.panic ch) fr hp := h
def AnyP (C : Ctx) (ops : Array Oper) (Q : Exit → Act → World → Prop) (hpS : List Res) (fuel : Nat) (listed : Array Bool) (fr : List (Nat × Value)) (hp : List Res) : Prop :=
  ∀ a w, At C fr hp a w → wpAnyH C.P .any ops (OnlyP Q) (Mem C hpS) fuel listed a w
variable {hpS : List Res} {fuel : Nat} {listed listed' : Array Bool}
theorem anyp_start {id : Nat} {l : List Oper} (hm : C.P.follows .mixedOrders = true) (n : Nat) (hn : l.length = n) (lst : List Bool) (hl : Array.replicate n false = lst.toArray) (_hs : hpS.Sublist hp) (h : AnyP C l.toArray Q hpS n lst.toArray fr hp) :
    Cod C (.region id l.toArray true) Q fr hp := by
  intro a w ha
  refine wp_mono (Q := OnlyP Q) (wp_region_held (S := Mem C hpS) hm ?_) ?_
  · have h1 := h a _ ha.drew
    rw [← hl] at h1
    simpa [hn] using h1
  · intro e a' w' he
    cases e with
    | normal => exact he
    | panic ch => exact he
    | _ => exact he.elim
def NxtP (C : Ctx) (ops : Array Oper) (Q : Exit → Act → World → Prop) (hpS : List Res) (fuel : Nat) (listed : Array Bool) (a : Act) (w : World) : Prop :=
  Mem C hpS w ∧ wpAnyH C.P .any ops (OnlyP Q) (Mem C hpS) fuel listed a w
theorem opp_of_lst {i : Nat} {o : Oper} (hi : ops[i]? = some o) {K : Act → World → Prop} (h : Lst C ops (Exit.then K (OnlyP Q)) [o] fr hp) (ha : At C fr hp a w) : wpOp C.P ops (OnlyP Q) i K a w := by
  have h := h a w ha
  unfold wpOp
  simp only [hi]
  simp only [wpList] at h
  split at h
  · rename_i hw
    rw [if_pos hw]
    rcases h with h | ⟨h1, h2⟩
    · refine .inl ?_
      unfold Oper.wp at h ⊢
      generalize (execOp a.eval o).run C.P w = r at *
      cases r with
      | ok n w' =>
        cases n <;> simp only [Oper.upon] at h ⊢ <;> first
          | exact h
          | exact Calls.mono h (fun e w'' he => by cases e <;> exact he)
          | exact Rows.mono h (fun _ _ he => he)
      | halt x w' => cases x <;> simp only [Oper.upon] at h ⊢ <;> exact h
    · exact .inr ⟨h1, h2⟩
  · rename_i hw
    rw [if_neg hw]
    exact h
theorem anyp_one {o : Oper} (i : Nat) (hr : Region.ready .any ops listed = [i]) (hi : ops[i]? = some o) (hl : listed.setIfInBounds i true = listed') (h : Lst C ops (Exit.then (NxtP C ops Q hpS fuel listed') (OnlyP Q)) [o] fr hp) : AnyP C ops Q hpS (fuel + 1) listed fr hp := by
  intro a w ha
  refine wpAnyH_all hr (by simp) ?_
  intro k hk
  simp at hk
  subst hk
  rw [hl]
  exact opp_of_lst hi h ha
theorem anyp_two {o o' : Oper} {l1 l2 : Array Bool} (i j : Nat) (hr : Region.ready .any ops listed = [i, j]) (hi : ops[i]? = some o) (hj : ops[j]? = some o') (hl : listed.setIfInBounds i true = l1) (hl' : listed.setIfInBounds j true = l2)
    (h : Lst C ops (Exit.then (NxtP C ops Q hpS fuel l1) (OnlyP Q)) [o] fr hp) (h' : Lst C ops (Exit.then (NxtP C ops Q hpS fuel l2) (OnlyP Q)) [o'] fr hp) : AnyP C ops Q hpS (fuel + 1) listed fr hp := by
  intro a w ha
  refine wpAnyH_all hr (by simp) ?_
  intro k hk
  simp at hk
  rcases hk with rfl | rfl
  · rw [hl]; exact opp_of_lst hi h ha
  · rw [hl']; exact opp_of_lst hj h' ha
theorem anyp_next (hs : hpS.Sublist hp) (h : AnyP C ops Q hpS fuel listed fr hp) : Ex C (Exit.then (NxtP C ops Q hpS fuel listed) (OnlyP Q)) .normal fr hp :=
  fun a w ha => ⟨ha.toMem hs, h a w ha⟩
theorem anyp_begin {id : Nat} {l : List Oper} {hpS : List Res} (bs : List Dk) (hm : C.P.follows .mixedOrders = true) (n : Nat) (hn : l.length = n) (lst : List Bool) (hl : Array.replicate n false = lst.toArray) [hs : Drp bs hp hpS] (h : AnyP C l.toArray Q hpS n lst.toArray fr hp) :
    Cod C (.region id l.toArray true) Q fr hp := anyp_start hm n hn lst hl hs.sub h
end
end Go.Proofs.YtofkhehcnfiopaaDoor.N
namespace Go.Proofs.YtofkhehcnfiopaaDoor.N
open Go Go.RowKit Go.Proofs

theorem Hopeless_bad (A : Option Addr) (c : Nat) (l : List RA) (hn : checkR l ≠ 0) (n0 : Int) (w : World) (hA : RdL RA.cells 5 w A l) : Calls Tryd.prog 51 #[.slice A l.length c, .int .i64 n0] w fun e w' => e = .returned (.tuple #[.slice none 0 0, .int .i64 ((checkR l : Nat) : Int)]) ∧ Grew w w' [] := by
  refine enter_defers (N := 15) [(0, .slice A l.length c), (1, .int .i64 n0)] Tryd.func51 rfl Tryd.ntmps51 rfl rfl ?_
  refine cod_seq ?_
  refine cod_region ?_
  refine lst_assign rfl rfl ?_
  refine lst_alloc rfl F.ti35 ?_
  intro b5
  refine lst_nil ?_
  refine ex_then ?_
  refine cod_seq ?_
  refine cod_region ?_
  refine lst_defer (first := []) (cap := []) (vs := [_]) rfl rfl ?_
  refine lst_nil ?_
  refine ex_then ?_
  refine cod_seq ?_
  refine cod_region ?_
  refine lst_move rfl rfl ?_
  refine lst_fn_panics (vs := [_]) rfl F.ent75 (fun a w ha => begin_bad A c l hn w (hA.later ha.below)) ?_
  refine ex_then_panic ?_
  exact ex_panic_caught (fun a w ha => ⟨_, res_tc (fn := Tryd.f51) ha rfl rfl rfl F.one35, rfl, ha.grown (by repeat (first | exact List.Sublist.refl _ | exact List.nil_sublist _ | refine List.Sublist.cons_cons _ ?_ | refine List.Sublist.cons _ ?_))⟩)

theorem Hopeless_bad0 (A : Option Addr) (c : Nat) (ags : List Ag) (hok : Oks ags) (n0 : Int) (hn0 : inB n0 0 63 = false) (w : World) (hA : RdL Ag.cells 5 w A ags) : Calls Tryd.prog 51 #[.slice A ags.length c, .int .i64 n0] w fun e w' => e = .returned (.tuple #[.slice none 0 0, .int .i64 1]) ∧ Grew w w' [] := by
  have hua : usedAll ags.length < 256 := by have := usedAll_lt hok.1; omega
  refine enter_defers (N := 15) [(0, .slice A ags.length c), (1, .int .i64 n0)] Tryd.func51 rfl Tryd.ntmps51 rfl rfl ?_
  refine cod_seq ?_
  refine cod_region ?_
  refine lst_assign rfl rfl ?_
  refine lst_alloc rfl F.ti35 ?_
  intro b5
  refine lst_nil ?_
  refine ex_then ?_
  refine cod_seq ?_
  refine cod_region ?_
  refine lst_defer (first := []) (cap := []) (vs := [_]) rfl rfl ?_
  refine lst_nil ?_
  refine ex_then ?_
  refine cod_seq ?_
  refine cod_region ?_
  refine lst_move rfl rfl ?_
  refine lst_fn (X := Option Addr × Nat) (vs := [_]) (p := fun _ => True) (val := fun x => .agg [.slice x.1 ags.length x.2, .int .u8 (usedAll ags.length : Nat)].toArray) (rs := fun x => [.row 89 5 x.1 ags.length x.2 (ags.flatMap Ag.cells)]) rfl rfl F.ent75 (fun a w ha => (begin_ok A c ags hok w (hA.later ha.below)).mono (fun e w' h => by obtain ⟨A', c', h1, h2⟩ := h; exact ⟨(A', c'), trivial, h1, h2⟩)) ?_
  rintro ⟨aA, cg⟩ -
  dsimp only [List.cons_append, List.nil_append]
  refine lst_alloc rfl F.ti75 ?_
  intro b6
  refine lst_store rfl rfl F.ti75 rfl ?_
  refine lst_nil ?_
  refine ex_then ?_
  refine cod_seq ?_
  refine anyp_begin [.b b5] F.follows 8 rfl [false, false, false, false, false, false, false, false] rfl ?_
  refine anyp_two (l1 := [true, false, false, false, false, false, false, false].toArray) (l2 := [false, true, false, false, false, false, false, false].toArray) 0 1 (by kernel_rfl) rfl rfl rfl rfl ?_ ?_
  · skip
    refine lst_loadN rfl rfl F.agg75 F.ti75 ?_
    refine lst_nil ?_
    refine anyp_next (by repeat (first | exact List.Sublist.refl _ | exact List.nil_sublist _ | refine List.Sublist.cons_cons _ ?_ | refine List.Sublist.cons _ ?_)) ?_
    refine anyp_one (listed' := [true, true, false, false, false, false, false, false].toArray) 1 (by kernel_rfl) rfl rfl ?_
    refine lst_move rfl rfl ?_
    refine lst_nil ?_
    refine anyp_next (by repeat (first | exact List.Sublist.refl _ | exact List.nil_sublist _ | refine List.Sublist.cons_cons _ ?_ | refine List.Sublist.cons _ ?_)) ?_
    refine anyp_one (listed' := [true, true, true, false, false, false, false, false].toArray) 2 (by kernel_rfl) rfl rfl ?_
    refine lst_fn_panics (vs := [_]) rfl F.ent76 (fun a w ha => melt_bad n0 hn0 w) ?_
    refine ex_then_panic ?_
    refine ex_only_panic ?_
    refine ex_then_panic ?_
    exact ex_panic_caught (fun a w ha => ⟨_, res_tc (fn := Tryd.f51) ha rfl rfl rfl F.one35, rfl, ha.grown (by repeat (first | exact List.Sublist.refl _ | exact List.nil_sublist _ | refine List.Sublist.cons_cons _ ?_ | refine List.Sublist.cons _ ?_))⟩)
  · skip
    refine lst_move rfl rfl ?_
    refine lst_nil ?_
    refine anyp_next (by repeat (first | exact List.Sublist.refl _ | exact List.nil_sublist _ | refine List.Sublist.cons_cons _ ?_ | refine List.Sublist.cons _ ?_)) ?_
    refine anyp_two (l1 := [true, true, false, false, false, false, false, false].toArray) (l2 := [false, true, true, false, false, false, false, false].toArray) 0 2 (by kernel_rfl) rfl rfl rfl rfl ?_ ?_
    · skip
      refine lst_loadN rfl rfl F.agg75 F.ti75 ?_
      refine lst_nil ?_
      refine anyp_next (by repeat (first | exact List.Sublist.refl _ | exact List.nil_sublist _ | refine List.Sublist.cons_cons _ ?_ | refine List.Sublist.cons _ ?_)) ?_
      refine anyp_one (listed' := [true, true, true, false, false, false, false, false].toArray) 2 (by kernel_rfl) rfl rfl ?_
      refine lst_fn_panics (vs := [_]) rfl F.ent76 (fun a w ha => melt_bad n0 hn0 w) ?_
      refine ex_then_panic ?_
      refine ex_only_panic ?_
      refine ex_then_panic ?_
      exact ex_panic_caught (fun a w ha => ⟨_, res_tc (fn := Tryd.f51) ha rfl rfl rfl F.one35, rfl, ha.grown (by repeat (first | exact List.Sublist.refl _ | exact List.nil_sublist _ | refine List.Sublist.cons_cons _ ?_ | refine List.Sublist.cons _ ?_))⟩)
    · skip
      refine lst_fn_panics (vs := [_]) rfl F.ent76 (fun a w ha => melt_bad n0 hn0 w) ?_
      refine ex_then_panic ?_
      refine ex_only_panic ?_
      refine ex_then_panic ?_
      exact ex_panic_caught (fun a w ha => ⟨_, res_tc (fn := Tryd.f51) ha rfl rfl rfl F.one35, rfl, ha.grown (by repeat (first | exact List.Sublist.refl _ | exact List.nil_sublist _ | refine List.Sublist.cons_cons _ ?_ | refine List.Sublist.cons _ ?_))⟩)

theorem Farthest_bad (A : Option Addr) (c : Nat) (l : List RA) (hn : checkR l ≠ 0) (n0 : Int) (w : World) (hA : RdL RA.cells 5 w A l) : Calls Tryd.prog 54 #[.slice A l.length c, .int .i64 n0] w fun e w' => e = .returned (.tuple #[.int .i64 0, .int .i64 0, .int .i64 ((checkR l : Nat) : Int)]) ∧ Grew w w' [] := by
  refine enter_defers (N := 40) [(0, .slice A l.length c), (1, .int .i64 n0)] Tryd.func54 rfl Tryd.ntmps54 rfl rfl ?_
  refine cod_seq ?_
  refine cod_region ?_
  refine lst_assign rfl rfl ?_
  refine lst_assign rfl rfl ?_
  refine lst_alloc rfl F.ti35 ?_
  intro b6
  refine lst_nil ?_
  refine ex_then ?_
  refine cod_seq ?_
  refine cod_region ?_
  refine lst_defer (first := []) (cap := []) (vs := [_]) rfl rfl ?_
  refine lst_nil ?_
  refine ex_then ?_
  refine cod_seq ?_
  refine cod_region ?_
  refine lst_move rfl rfl ?_
  refine lst_fn_panics (vs := [_]) rfl F.ent75 (fun a w ha => begin_bad A c l hn w (hA.later ha.below)) ?_
  refine ex_then_panic ?_
  exact ex_panic_caught (fun a w ha => ⟨_, res_ttc (fn := Tryd.f54) ha rfl rfl rfl rfl F.one35, rfl, ha.grown (by repeat (first | exact List.Sublist.refl _ | exact List.nil_sublist _ | refine List.Sublist.cons_cons _ ?_ | refine List.Sublist.cons _ ?_))⟩)

theorem Farthest_bad0 (A : Option Addr) (c : Nat) (ags : List Ag) (hok : Oks ags) (n0 : Int) (hn0 : inB n0 0 63 = false) (w : World) (hA : RdL Ag.cells 5 w A ags) : Calls Tryd.prog 54 #[.slice A ags.length c, .int .i64 n0] w fun e w' => e = .returned (.tuple #[.int .i64 0, .int .i64 0, .int .i64 1]) ∧ Grew w w' [] := by
  have hua : usedAll ags.length < 256 := by have := usedAll_lt hok.1; omega
  refine enter_defers (N := 40) [(0, .slice A ags.length c), (1, .int .i64 n0)] Tryd.func54 rfl Tryd.ntmps54 rfl rfl ?_
  refine cod_seq ?_
  refine cod_region ?_
  refine lst_assign rfl rfl ?_
  refine lst_assign rfl rfl ?_
  refine lst_alloc rfl F.ti35 ?_
  intro b6
  refine lst_nil ?_
  refine ex_then ?_
  refine cod_seq ?_
  refine cod_region ?_
  refine lst_defer (first := []) (cap := []) (vs := [_]) rfl rfl ?_
  refine lst_nil ?_
  refine ex_then ?_
  refine cod_seq ?_
  refine cod_region ?_
  refine lst_move rfl rfl ?_
  refine lst_fn (X := Option Addr × Nat) (vs := [_]) (p := fun _ => True) (val := fun x => .agg [.slice x.1 ags.length x.2, .int .u8 (usedAll ags.length : Nat)].toArray) (rs := fun x => [.row 89 5 x.1 ags.length x.2 (ags.flatMap Ag.cells)]) rfl rfl F.ent75 (fun a w ha => (begin_ok A c ags hok w (hA.later ha.below)).mono (fun e w' h => by obtain ⟨A', c', h1, h2⟩ := h; exact ⟨(A', c'), trivial, h1, h2⟩)) ?_
  rintro ⟨aA, cg⟩ -
  dsimp only [List.cons_append, List.nil_append]
  refine lst_alloc rfl F.ti75 ?_
  intro b7
  refine lst_store rfl rfl F.ti75 rfl ?_
  refine lst_nil ?_
  refine ex_then ?_
  refine cod_seq ?_
  refine cod_region ?_
  refine lst_move rfl rfl ?_
  refine lst_fn_panics (vs := [_]) rfl F.ent76 (fun a w ha => melt_bad n0 hn0 w) ?_
  refine ex_then_panic ?_
  exact ex_panic_caught (fun a w ha => ⟨_, res_ttc (fn := Tryd.f54) ha rfl rfl rfl rfl F.one35, rfl, ha.grown (by repeat (first | exact List.Sublist.refl _ | exact List.nil_sublist _ | refine List.Sublist.cons_cons _ ?_ | refine List.Sublist.cons _ ?_))⟩)

end Go.Proofs.YtofkhehcnfiopaaDoor.N
namespace Go.Proofs.YtofkhehcnfiopaaDoor.N
open Go Go.RowKit Go.Proofs
/-- The agents that some numbers are. -/
def agsOf (l : List RA) : List Ag := l.map RA.ag
theorem agsOf_len (l : List RA) : (agsOf l).length = l.length := List.length_map ..
end Go.Proofs.YtofkhehcnfiopaaDoor.N
namespace Go.Proofs.YtofkhehcnfiopaaDoor.N
open Go Go.RowKit Go.Proofs
/-! What is asked of whatever agents: the program and the reference answer alike. -/
theorem askedR_zero {l : List RA} {m p : Int} (h : askedR l m p = 0) : checkR l = 0 ∧ inB m 0 63 = true ∧ inB p 0 63 = true := by
  unfold askedR at h
  by_cases hc : checkR l = 0
  · rw [if_neg (by simpa using hc)] at h
    refine ⟨hc, ?_⟩
    by_cases hb : (inB m 0 63 && inB p 0 63) = true
    · simpa using hb
    · rw [if_neg hb] at h; cases h
  · rw [if_pos hc] at h; exact absurd h hc
theorem askedR_check {l : List RA} {m p : Int} (h : checkR l ≠ 0) : askedR l m p = checkR l := by
  unfold askedR
  rw [if_pos h]
theorem askedR_one {l : List RA} {m p : Int} (h : checkR l = 0) (hb : inB m 0 63 = false ∨ inB p 0 63 = false) : askedR l m p = 1 := by
  unfold askedR
  rw [if_neg (by simpa using h), if_neg]
  intro hx
  rw [Bool.and_eq_true] at hx
  rcases hb with e | e
  · rw [e] at hx; cases hx.1
  · rw [e] at hx; cases hx.2
theorem nat_of_inB {m : Int} (h : inB m 0 63 = true) : ∃ f : Nat, m = (f : Int) ∧ f < 64 := by
  rw [inB_true] at h
  exact ⟨m.toNat, by omega, by omega⟩
theorem in0 : inB 0 0 63 = true := by decide
theorem grew_nil {w w' : World} (h : Grew w w' []) : Grew w w' [.row 3 1 none ([] : List Nat).length 0 (ints [])] :=
  ⟨h.1, fun r hr => by simp at hr; subst hr; exact ⟨rfl, .inl ⟨rfl, rfl⟩⟩, List.nodup_nil⟩
def Says (w : World) (L : List Nat) (E : Nat) (e : Ending) (w' : World) : Prop := ∃ (A' : Option Addr) (c' : Nat), e = .returned (.tuple #[.slice A' L.length c', .int .i64 (E : Int)]) ∧ Grew w w' [.row 3 1 A' L.length c' (ints L)]
theorem Says.nil {w w' : World} {E : Nat} {e : Ending} (h : e = .returned (.tuple #[.slice none 0 0, .int .i64 (E : Int)]) ∧ Grew w w' []) : Says w [] E e w' := ⟨none, 0, h.1, grew_nil h.2⟩
/-- What Put answers. -/
def putR (l : List RA) (m : Int) (way : List Int) : List Nat × Nat :=
  if askedR l m 0 = 0 then (if 20 < way.length then ([], 6) else match alongE (agsOf l) m.toNat way with | .ok o => (o, 0) | .error c => ([], c)) else ([], askedR l m 0)
theorem PutS.is {l : List RA} {f E : Nat} {way : List Int} {outs : List Nat} (h0 : askedR l (f : Int) 0 = 0) (h : PutS (agsOf l) f way outs E) : putR l (f : Int) way = (outs, E) := by
  unfold putR
  rw [if_pos h0, Int.toNat_natCast]
  rcases h with ⟨h1, h2, h3, _⟩ | ⟨h1, h2, _, h4⟩ | ⟨h1, h2, h3⟩
  · rw [if_neg (by omega), h2, h3]
  · rw [if_neg (by omega), h2, h4]
  · rw [if_pos h1, h2, h3]
end Go.Proofs.YtofkhehcnfiopaaDoor.N
namespace Go.Proofs.YtofkhehcnfiopaaDoor.N
open Go Go.RowKit Go.Proofs
/-- A number of 64 bits. -/
def W64 (n : Int) : Prop := -9223372036854775808 ≤ n ∧ n ≤ 9223372036854775807
structure RA.wf (a : RA) : Prop where
  needs : W64 a.needs
  no : W64 a.no
  takes : W64 a.takes
  leaves : W64 a.leaves
  cost : W64 a.cost
def rv24 (a : RA) : Value := .agg a.cells.toArray
def ralits (a : RA) : List Go.Lit := [.int .i64 a.needs, .int .i64 a.no, .int .i64 a.takes, .int .i64 a.leaves, .int .i64 a.cost]
theorem kt24 : Tryd.prog.keyType 24 = true := by kernel_rfl
theorem co24 : Tryd.prog.cellsOf 24 = 5 := by kernel_rfl
theorem w64wf {n : Int} (h : W64 n) : (Go.Lit.int .i64 n).wf = true := by
  unfold W64 at h
  simp [Go.Lit.wf, IntKind.min, IntKind.max, IntKind.signed, IntKind.bits]
  omega
theorem keyLits_w64 {n : Int} (h : W64 n) (d : Nat) : Tryd.prog.keyLits (d + 1) 3 [.int .i64 n] = some [.int .i64 n] := by
  unfold Program.keyLits
  rw [Tryd.underlying3]
  simp [w64wf h]
theorem keyLits_ra {a : RA} (h : a.wf) (d : Nat) : Tryd.prog.keyLits (d + 1 + 1) 24 a.cells = some (ralits a) := by
  obtain ⟨h1, h2, h3, h4, h5⟩ := h
  conv => lhs; unfold Program.keyLits
  rw [Tryd.underlying24]
  simp [co24, co3, RA.cells, ralits, keyLits_w64 h1, keyLits_w64 h2, keyLits_w64 h3, keyLits_w64 h4, keyLits_w64 h5]
theorem keyOf_ra {a : RA} (h : a.wf) : keyOf Tryd.prog 24 (rv24 a) = some (.string (keyBytes (ralits a))) := by
  unfold keyOf
  rw [Tryd.underlying24]
  simp only [kt24, Bool.true_and]
  have hf : (rv24 a).formed Tryd.prog 24 = true := by
    simp [Value.formed, rv24, Tryd.underlying24, co24, RA.cells]
  rw [if_pos hf, tsz]
  have : (rv24 a).cells.toList = a.cells := rfl
  rw [this, keyLits_ra h]
  rfl
theorem run_neq_same {a : RA} (h : a.wf) (x y : Operand) (w : World) : (do eqGuard .neq 24 x y (rv24 a) (rv24 a); binOp .neq 24 (rv24 a) (rv24 a) : Sem Value).run Tryd.prog w = .ok (.bool false) w := by
  obtain ⟨r, hr, hiff⟩ := run_equal_deep (P := Tryd.prog) w (m := 2) (by omega) (k := 24) (by kernel_rfl) (by rw [Tryd.underlying24]) (keyOf_ra h) (keyOf_ra h)
  have hg : (eqGuard .neq 24 x y (rv24 a) (rv24 a)).run Tryd.prog w = .ok () w := by
    have h1 : Tryd.prog.eqGuardType Tryd.prog.depth 24 = false := by kernel_rfl
    have hp : (program : Sem Program).run Tryd.prog w = .ok Tryd.prog w := rfl
    simp only [eqGuard, rv24, Sem.run_bind, hp, Result.andThen_ok, h1]
    simp
  have hb : (binOp .neq 24 (rv24 a) (rv24 a)).run Tryd.prog w = .ok (.bool (!r)) w := by
    show (do pure (.bool (!(← Op.equal 24 (rv24 a) (rv24 a)))) : Sem Value).run Tryd.prog w = _
    simp only [Sem.run_bind, hr, Result.andThen_ok, Sem.run_pure]
  obtain rfl : r = true := hiff.2 rfl
  simp only [Sem.run_bind, hg, Result.andThen_ok, hb]
  rfl
end Go.Proofs.YtofkhehcnfiopaaDoor.N
namespace Go.Proofs.YtofkhehcnfiopaaDoor.N
open Go Go.RowKit Go.Proofs

theorem EqAgents_c (A B : Option Addr) (c d : Nat) (l : List RA) (hl : l.length ≤ 400000) (hwf : ∀ x ∈ l, x.wf) (w : World) (hA : RdL RA.cells 5 w A l) (hB : RdL RA.cells 5 w B l) : Calls Tryd.prog 33 #[.slice A l.length c, .slice B l.length d] w fun e w' => e = .returned (.bool true) ∧ Grew w w' [] := by
  refine enter (N := 32) [(0, .slice A l.length c), (1, .slice B l.length d)] Tryd.func33 rfl Tryd.ntmps33 rfl rfl ?_
  refine cod_seq ?_
  refine cod_region ?_
  refine lst_assign rfl rfl ?_
  refine lst_nil ?_
  refine ex_then ?_
  refine cod_seq ?_
  refine cod_seq ?_
  refine cod_region ?_
  refine lst_assign rfl rfl ?_
  refine lst_nil ?_
  refine ex_then ?_
  refine cod_block ?_
  refine cod_loop (G := Nat) (fun k => k ≤ l.length) (fun k => l.length - k) (fun k => [(0, .slice A l.length c), (1, .slice B l.length d), (5, .int .i64 (k : Int))]) (fun k => []) 0 (Nat.zero_le _) (by repeat (first | exact Sub.nil _ | refine Sub.cons rfl ?_)) (by repeat (first | exact List.Sublist.refl _ | exact List.nil_sublist _ | refine List.Sublist.cons_cons _ ?_ | refine List.Sublist.cons _ ?_)) ?_
  intro k hk
  (try dsimp only at hk ⊢)
  refine cod_seq ?_
  refine cod_seq ?_
  refine cod_region ?_
  refine lst_cut1 10 15 (.bool (decide ((k : Int) < (l.length : Int)))) ?_ ?_
  · skip
    refine lst_move rfl rfl ?_
    refine lst_move rfl rfl ?_
    refine lst_len rfl rfl Tryd.underlying22 ?_
    refine lst_int rfl rfl rfl bin_lss ?_
    refine lst_move rfl rfl ?_
    refine lst_split_bool (t := 10) rfl (fun hg10 => ?_) (fun hg10 => ?_)
    · skip
      refine lst_on rfl rfl ?_
      refine lst_move rfl rfl ?_
      refine lst_on rfl rfl ?_
      refine lst_move rfl rfl ?_
      refine lst_on rfl rfl ?_
      refine lst_len rfl rfl Tryd.underlying22 ?_
      refine lst_on rfl rfl ?_
      refine lst_int rfl rfl rfl bin_lss ?_
      refine lst_pick_true rfl rfl rfl ?_
      refine lst_nil ?_
      exact ex_cut (.cons (by simp_all [look]) (by repeat (first | exact Sub.nil _ | refine Sub.cons rfl ?_))) (by repeat (first | exact List.Sublist.refl _ | exact List.nil_sublist _ | refine List.Sublist.cons_cons _ ?_ | refine List.Sublist.cons _ ?_))
    · skip
      refine lst_off rfl rfl rfl ?_
      refine lst_off rfl rfl rfl ?_
      refine lst_off rfl rfl rfl ?_
      refine lst_off rfl rfl rfl ?_
      refine lst_pick_false rfl rfl rfl ?_
      refine lst_nil ?_
      exact ex_cut (.cons (by simp_all [look]) (by repeat (first | exact Sub.nil _ | refine Sub.cons rfl ?_))) (by repeat (first | exact List.Sublist.refl _ | exact List.nil_sublist _ | refine List.Sublist.cons_cons _ ?_ | refine List.Sublist.cons _ ?_))
  refine lst_nil ?_
  refine ex_then ?_
  refine cod_cond_bool rfl (fun hc0 => ?_) (fun hc0 => ?_)
  · skip
    have hk' : k < l.length := by have := of_decide_eq_true hc0; omega
    obtain ⟨b, o, rfl, hb, hcell⟩ := hA (by omega)
    obtain ⟨b2, o2, rfl, hb2, hcell2⟩ := hB (by omega)
    obtain ⟨x, hx⟩ : ∃ x, l[k]? = some x := ⟨_, List.getElem?_eq_getElem hk'⟩
    have hxw := hwf x (List.mem_of_getElem? hx)
    refine cod_skip ?_
    refine ex_then ?_
    refine cod_seq ?_
    refine cod_block ?_
    refine cod_seq ?_
    refine any_begin [] F.follows 9 rfl [false, false, false, false, false, false, false, false, false] rfl ?_
    refine any_take (listed' := [true, false, false, false, false, false, false, false, false].toArray) 0 rfl rfl rfl (by kernel_rfl) (by kernel_rfl) (by kernel_rfl) (by repeat (first | exact List.Sublist.refl _ | exact List.nil_sublist _ | refine List.Sublist.cons_cons _ ?_ | refine List.Sublist.cons _ ?_)) (yld_move rfl) rfl ?_
    refine any_take (listed' := [true, true, false, false, false, false, false, false, false].toArray) 1 rfl rfl rfl (by kernel_rfl) (by kernel_rfl) (by kernel_rfl) (by repeat (first | exact List.Sublist.refl _ | exact List.nil_sublist _ | refine List.Sublist.cons_cons _ ?_ | refine List.Sublist.cons _ ?_)) (yld_move rfl) rfl ?_
    refine any_take (listed' := [true, true, true, false, false, false, false, false, false].toArray) 2 rfl rfl rfl (by kernel_rfl) (by kernel_rfl) (by kernel_rfl) (by repeat (first | exact List.Sublist.refl _ | exact List.nil_sublist _ | refine List.Sublist.cons_cons _ ?_ | refine List.Sublist.cons _ ?_)) (yld_index (j := k) rfl rfl Tryd.underlying22 F.ti24 rfl hk') rfl ?_
    refine any_take (listed' := [true, true, true, true, false, false, false, false, false].toArray) 3 rfl rfl rfl (by kernel_rfl) (by kernel_rfl) (by kernel_rfl) (by repeat (first | exact List.Sublist.refl _ | exact List.nil_sublist _ | refine List.Sublist.cons_cons _ ?_ | refine List.Sublist.cons _ ?_)) (yld_loadN_at (l := [.int .i64 x.needs, .int .i64 x.no, .int .i64 x.takes, .int .i64 x.leaves, .int .i64 x.cost]) rfl F.agg24 F.ti24 rfl (fun a w ha j u hu => ha.old (hcell k x hx j u hu) hb)) rfl ?_
    refine any_take (listed' := [true, true, true, true, true, false, false, false, false].toArray) 4 rfl rfl rfl (by kernel_rfl) (by kernel_rfl) (by kernel_rfl) (by repeat (first | exact List.Sublist.refl _ | exact List.nil_sublist _ | refine List.Sublist.cons_cons _ ?_ | refine List.Sublist.cons _ ?_)) (yld_move rfl) rfl ?_
    refine any_take (listed' := [true, true, true, true, true, true, false, false, false].toArray) 5 rfl rfl rfl (by kernel_rfl) (by kernel_rfl) (by kernel_rfl) (by repeat (first | exact List.Sublist.refl _ | exact List.nil_sublist _ | refine List.Sublist.cons_cons _ ?_ | refine List.Sublist.cons _ ?_)) (yld_move rfl) rfl ?_
    refine any_take (listed' := [true, true, true, true, true, true, true, false, false].toArray) 6 rfl rfl rfl (by kernel_rfl) (by kernel_rfl) (by kernel_rfl) (by repeat (first | exact List.Sublist.refl _ | exact List.nil_sublist _ | refine List.Sublist.cons_cons _ ?_ | refine List.Sublist.cons _ ?_)) (yld_index (j := k) rfl rfl Tryd.underlying22 F.ti24 rfl hk') rfl ?_
    refine any_take (listed' := [true, true, true, true, true, true, true, true, false].toArray) 7 rfl rfl rfl (by kernel_rfl) (by kernel_rfl) (by kernel_rfl) (by repeat (first | exact List.Sublist.refl _ | exact List.nil_sublist _ | refine List.Sublist.cons_cons _ ?_ | refine List.Sublist.cons _ ?_)) (yld_loadN_at (l := [.int .i64 x.needs, .int .i64 x.no, .int .i64 x.takes, .int .i64 x.leaves, .int .i64 x.cost]) rfl F.agg24 F.ti24 rfl (fun a w ha j u hu => ha.old (hcell2 k x hx j u hu) hb2)) rfl ?_
    refine any_take (listed' := [true, true, true, true, true, true, true, true, true].toArray) 8 rfl rfl rfl (by kernel_rfl) (by kernel_rfl) (by kernel_rfl) (by repeat (first | exact List.Sublist.refl _ | exact List.nil_sublist _ | refine List.Sublist.cons_cons _ ?_ | refine List.Sublist.cons _ ?_)) (yld_bin rfl rfl (run_neq_same hxw _ _)) rfl ?_
    refine any_done rfl (by kernel_rfl) ?_
    refine ex_then ?_
    refine cod_cond_false rfl ?_
    refine cod_skip ?_
    refine ex_block_normal ?_
    refine ex_then ?_
    refine cod_region ?_
    refine lst_move rfl rfl ?_
    refine lst_int rfl rfl rfl (fun w => bin_add w (wrap_i64' _ (by omega) (by omega))) ?_
    refine lst_assign rfl rfl ?_
    refine lst_nil ?_
    refine ex_round (k + 1) (by (try dsimp only); omega) (by (try dsimp only); omega) (by repeat (first | exact Sub.nil _ | refine Sub.cons rfl ?_)) (by repeat (first | exact List.Sublist.refl _ | exact List.nil_sublist _ | refine List.Sublist.cons_cons _ ?_ | refine List.Sublist.cons _ ?_))
  · skip
    refine cod_exit ?_
    refine ex_then_exit ?_
    refine ex_then_exit ?_
    refine ex_block_exit ?_
    refine ex_then ?_
    refine cod_seq ?_
    refine cod_region ?_
    refine lst_move rfl rfl ?_
    refine lst_len rfl rfl Tryd.underlying22 ?_
    refine lst_move rfl rfl ?_
    refine lst_len rfl rfl Tryd.underlying22 ?_
    refine lst_int (v := .bool true) rfl rfl rfl (fun w => by rw [bin_eql]; simp) ?_
    refine lst_assign rfl rfl ?_
    refine lst_nil ?_
    refine ex_then ?_
    refine cod_ret ?_
    exact ex_ret rfl (fun a w ha => res_one rfl rfl ha) (fun a w ha => ⟨rfl, ha.grown (List.nil_sublist _)⟩)

end Go.Proofs.YtofkhehcnfiopaaDoor.N
namespace Go.Proofs.YtofkhehcnfiopaaDoor.N
open Go Go.RowKit Go.Proofs
section
variable {C : Ctx} {fr : List (Nat × Value)} {hp hp' : List Res} {ops : Array Oper} {Q : Exit → Act → World → Prop} {rest : List Oper}
  {d : Nat} {ty : TypeId} {pos : String} {after : Array Edge}
/-- A call that turns a block of the caller's and hands back something new. -/
theorem lst_call_pul1 {X : Type} (b : Nat) {o : Obj} (o' : X → Obj) (r : X → Res) {T : List Res} {f : FuncId} {vs : List Value} {args : Array Operand} {ts : Array TypeId} (p : X → Prop) (val : X → Value) [hq : Pul b o hp T] (hd : Nat.blt d C.N = true)
    (hargs : args.toList.map (ev fr) = vs.map some) (hf : Enters C.P f)
    (hc : ∀ a w, At C fr (.blk b o :: T) a w → Calls C.P f vs.toArray w fun e w' => ∃ y, p y ∧ e = .returned (val y) ∧ At C fr (r y :: .blk b (o' y) :: T) a w')
    (k : ∀ y, p y → Lst C ops Q rest ((d, val y) :: fr) (r y :: .blk b (o' y) :: T)) : Lst C ops Q (⟨some d, .call { callee := .value (.func f), args := args, argTypes := ts }, ty, pos, after, none⟩ :: rest) fr hp := by
  refine lst_call (first := []) (cap := []) (p := p) (val := val) (rs := fun y => r y :: .blk b (o' y) :: T) hd rfl hargs hf (fun a w ha => ?_) k
  simp only [List.nil_append, List.append_nil]
  exact hc a w (ha.permed hq.perm)
end
end Go.Proofs.YtofkhehcnfiopaaDoor.N
namespace Go.Proofs.YtofkhehcnfiopaaDoor.N
open Go Go.RowKit Go.Proofs
theorem F.ti22 : TI Tryd.prog 22 (.slice none 0 0) 1 24 := TI.of (by kernel_rfl)
theorem several_c {C : Ctx} {fr : List (Nat × Value)} {T : List Res} {a : Act} {w : World} (hC : C.P = Tryd.prog) {hb tk st nc : Nat} {nA : Option Addr} {nums : List Int} (hB : C.w0.heap.size = C.B) (hN : RdL icell 1 C.w0 nA nums) (htk : tk ≤ 900000) (hst : st < 18446744073709551616) {A : Option Addr} {n c : Nat} {x : RA} (ha : At C fr (.blk hb (hatO nA nums.length nc (tk) (st)) :: T) a w) : Calls C.P 23 #[.slice A n c, .agg [.int .i64 x.needs, .int .i64 x.no, .int .i64 x.takes, .int .i64 x.leaves, .int .i64 x.cost].toArray, .pointer (some ⟨hb, 0, none⟩)] w fun e w' => ∃ (tk' st' b : Nat) (l1 l2 : List Ag) (A1 A2 : Option Addr) (c1 c2 : Nat), tk' ≤ tk + 400 ∧ st' < 18446744073709551616 ∧ l1.length ≤ 4 ∧ (∀ y ∈ l1, y.ok) ∧ l2.length ≤ 3 ∧ (∀ y ∈ l2, y.ok) ∧ e = .returned (.slice (some ⟨b, 0, none⟩) 3 3) ∧ At C fr (.blk b (.cells [.slice A n c, .slice A1 l1.length c1, .slice A2 (l2.length + 1) c2].toArray 22 (0, 0)) :: .row 24 5 A1 l1.length c1 (l1.flatMap Ag.cells) :: .row 24 5 A2 (l2.length + 1) c2 (l2.flatMap Ag.cells ++ [.int .i64 x.needs, .int .i64 x.no, .int .i64 x.takes, .int .i64 x.leaves, .int .i64 x.cost]) :: .blk hb (hatO nA nums.length nc (tk') (st')) :: T) a w' := by
  obtain ⟨P, B, w0, N0, ds⟩ := C
  obtain rfl : P = Tryd.prog := hC
  (try dsimp only at hB)
  (try dsimp only at hN)
  refine enter_in (N := 18) [(0, .slice A n c), (1, .agg [.int .i64 x.needs, .int .i64 x.no, .int .i64 x.takes, .int .i64 x.leaves, .int .i64 x.cost].toArray), (2, .pointer (some ⟨hb, 0, none⟩))] ha Tryd.func23 rfl Tryd.ntmps23 rfl rfl ?_
  refine cod_seq ?_
  refine cod_region ?_
  refine lst_box rfl rfl ?_
  intro b4
  refine lst_assign rfl rfl ?_
  refine lst_nil ?_
  refine ex_then ?_
  refine cod_seq ?_
  refine cod_region ?_
  refine lst_move rfl rfl ?_
  refine lst_call_pul1 (X := Nat × Nat × List Ag × Option Addr × Nat) (vs := [_, _, _]) hb (fun y => hatO nA nums.length nc y.1 y.2.1) (fun y => .row 24 5 y.2.2.2.1 y.2.2.1.length y.2.2.2.2 (y.2.2.1.flatMap Ag.cells)) (fun y => y.1 ≤ tk + 200 ∧ y.2.1 < 18446744073709551616 ∧ y.2.2.1.length ≤ 4 ∧ ∀ x ∈ y.2.2.1, x.ok) (fun y => .slice y.2.2.2.1 y.2.2.1.length y.2.2.2.2) rfl rfl F.ent34 (fun a w ha => (AgentsOf_c (C := ⟨Tryd.prog, B, w0, _, _⟩) rfl hB hN (tk := tk) (st := st) (many := 4) (few := 4) (by omega) (by omega) (by omega) (by omega) (by omega) ha).mono (fun e w' h => by obtain ⟨t', s', l, A', c', h1, h2, h3, h4, h5, h6⟩ := h; exact ⟨(t', s', l, A', c'), ⟨by (try dsimp only); omega, h2, h3, h4⟩, h5, h6⟩)) ?_
  rintro ⟨t1, s1, l1, A1, c1⟩ ⟨ht1, hs1, hl1, ho1⟩
  dsimp only at ht1 hs1 hl1 ho1 ⊢
  refine lst_assign rfl rfl ?_
  refine lst_nil ?_
  refine ex_then ?_
  refine cod_seq ?_
  refine any_begin [.b hb] F.follows 9 rfl [false, false, false, false, false, false, false, false, false] rfl ?_
  refine any_take (listed' := [true, false, false, false, false, false, false, false, false].toArray) 0 rfl rfl rfl (by kernel_rfl) (by kernel_rfl) (by kernel_rfl) (by repeat (first | exact List.Sublist.refl _ | exact List.nil_sublist _ | refine List.Sublist.cons_cons _ ?_ | refine List.Sublist.cons _ ?_)) (yld_move rfl) rfl ?_
  refine any_take (listed' := [true, true, false, false, false, false, false, false, false].toArray) 1 rfl rfl rfl (by kernel_rfl) (by kernel_rfl) (by kernel_rfl) (by repeat (first | exact List.Sublist.refl _ | exact List.nil_sublist _ | refine List.Sublist.cons_cons _ ?_ | refine List.Sublist.cons _ ?_)) (yld_move rfl) rfl ?_
  refine any_take (listed' := [true, true, true, false, false, false, false, false, false].toArray) 2 rfl rfl rfl (by kernel_rfl) (by kernel_rfl) (by kernel_rfl) (by repeat (first | exact List.Sublist.refl _ | exact List.nil_sublist _ | refine List.Sublist.cons_cons _ ?_ | refine List.Sublist.cons _ ?_)) (yld_move rfl) rfl ?_
  refine any_take (listed' := [true, true, true, false, true, false, false, false, false].toArray) 4 rfl rfl rfl (by kernel_rfl) (by kernel_rfl) (by kernel_rfl) (by repeat (first | exact List.Sublist.refl _ | exact List.nil_sublist _ | refine List.Sublist.cons_cons _ ?_ | refine List.Sublist.cons _ ?_)) (yld_loadN rfl F.agg24 F.ti24) rfl ?_
  refine any_two (l1 := [true, true, true, true, true, false, false, false, false].toArray) (l2 := [true, true, true, false, true, true, false, false, false].toArray) 3 5 (by kernel_rfl) rfl rfl rfl rfl ?_ ?_
  · skip
    refine lst_call_pul1 (X := Nat × Nat × List Ag × Option Addr × Nat) (vs := [_, _, _]) hb (fun y => hatO nA nums.length nc y.1 y.2.1) (fun y => .row 24 5 y.2.2.2.1 y.2.2.1.length y.2.2.2.2 (y.2.2.1.flatMap Ag.cells)) (fun y => y.1 ≤ tk + 400 ∧ y.2.1 < 18446744073709551616 ∧ y.2.2.1.length ≤ 3 ∧ ∀ x ∈ y.2.2.1, x.ok) (fun y => .slice y.2.2.2.1 y.2.2.1.length y.2.2.2.2) rfl rfl F.ent34 (fun a w ha => (AgentsOf_c (C := ⟨Tryd.prog, B, w0, _, _⟩) rfl hB hN (tk := t1) (st := s1) (many := 3) (few := 3) (by omega) (by omega) (by omega) (by omega) (by omega) ha).mono (fun e w' h => by obtain ⟨t', s', l, A', c', h1, h2, h3, h4, h5, h6⟩ := h; exact ⟨(t', s', l, A', c'), ⟨by (try dsimp only); omega, h2, h3, h4⟩, h5, h6⟩)) ?_
    rintro ⟨t2, s2, l2, A2, c2⟩ ⟨ht2, hs2, hl2, ho2⟩
    dsimp only at ht2 hs2 hl2 ho2 ⊢
    refine lst_nil ?_
    refine any_next (by repeat (first | exact List.Sublist.refl _ | exact List.nil_sublist _ | refine List.Sublist.cons_cons _ ?_ | refine List.Sublist.cons _ ?_)) ?_
    refine any_one (listed' := [true, true, true, true, true, true, false, false, false].toArray) 5 (by kernel_rfl) rfl rfl ?_
    refine lst_litN (vs := [(0, _)]) [_, _, _, _, _] rfl rfl Tryd.underlying22 F.ti24 rfl rfl rfl ⟨rfl, [_, _, _, _, _], [], rfl, rfl, rfl, rfl⟩ ?_
    intro b15
    refine lst_nil ?_
    refine any_next (by repeat (first | exact List.Sublist.refl _ | exact List.nil_sublist _ | refine List.Sublist.cons_cons _ ?_ | refine List.Sublist.cons _ ?_)) ?_
    refine any_one (listed' := [true, true, true, true, true, true, true, false, false].toArray) 6 (by kernel_rfl) rfl rfl ?_
    refine lst_append rfl rfl rfl Tryd.underlying22 F.ti24 rfl rfl rfl (by unfold maxLen; omega) (by omega) ?_
    intro A3 c3
    refine lst_nil ?_
    refine any_next (by repeat (first | exact List.Sublist.refl _ | exact List.nil_sublist _ | refine List.Sublist.cons_cons _ ?_ | refine List.Sublist.cons _ ?_)) ?_
    refine any_one (listed' := [true, true, true, true, true, true, true, true, false].toArray) 7 (by kernel_rfl) rfl rfl ?_
    refine lst_lit (vs := [(0, _), (1, _), (2, _)]) rfl rfl Tryd.underlying29 F.ti22 rfl rfl rfl ?_
    intro b17
    refine lst_nil ?_
    refine any_next (by repeat (first | exact List.Sublist.refl _ | exact List.nil_sublist _ | refine List.Sublist.cons_cons _ ?_ | refine List.Sublist.cons _ ?_)) ?_
    refine any_take (listed' := [true, true, true, true, true, true, true, true, true].toArray) 8 rfl rfl rfl (by kernel_rfl) (by kernel_rfl) (by kernel_rfl) (by repeat (first | exact List.Sublist.refl _ | exact List.nil_sublist _ | refine List.Sublist.cons_cons _ ?_ | refine List.Sublist.cons _ ?_)) (yld_assign rfl) rfl ?_
    refine any_done rfl (by kernel_rfl) ?_
    refine ex_then ?_
    refine cod_ret ?_
    exact ex_ret rfl (fun a w ha => res_one rfl rfl ha) (fun _ _ ha' => ⟨t2, s2, b17, l1, l2, A1, A3, c1, c3, ht2, hs2, hl1, ho1, hl2, ho2, rfl, ha.back (ha'.pck (by repeat (first | exact Pck.nil _ | exact Pck.refl _ | (apply Pck.cons; focus ((repeat (first | exact Rem.here _ | apply Rem.there)); done)) | refine Pck.skip _ ?_)))⟩)
  · skip
    refine lst_litN (vs := [(0, _)]) [_, _, _, _, _] rfl rfl Tryd.underlying22 F.ti24 rfl rfl rfl ⟨rfl, [_, _, _, _, _], [], rfl, rfl, rfl, rfl⟩ ?_
    intro b15
    refine lst_nil ?_
    refine any_next (by repeat (first | exact List.Sublist.refl _ | exact List.nil_sublist _ | refine List.Sublist.cons_cons _ ?_ | refine List.Sublist.cons _ ?_)) ?_
    refine any_one (listed' := [true, true, true, true, true, true, false, false, false].toArray) 3 (by kernel_rfl) rfl rfl ?_
    refine lst_call_pul1 (X := Nat × Nat × List Ag × Option Addr × Nat) (vs := [_, _, _]) hb (fun y => hatO nA nums.length nc y.1 y.2.1) (fun y => .row 24 5 y.2.2.2.1 y.2.2.1.length y.2.2.2.2 (y.2.2.1.flatMap Ag.cells)) (fun y => y.1 ≤ tk + 400 ∧ y.2.1 < 18446744073709551616 ∧ y.2.2.1.length ≤ 3 ∧ ∀ x ∈ y.2.2.1, x.ok) (fun y => .slice y.2.2.2.1 y.2.2.1.length y.2.2.2.2) rfl rfl F.ent34 (fun a w ha => (AgentsOf_c (C := ⟨Tryd.prog, B, w0, _, _⟩) rfl hB hN (tk := t1) (st := s1) (many := 3) (few := 3) (by omega) (by omega) (by omega) (by omega) (by omega) ha).mono (fun e w' h => by obtain ⟨t', s', l, A', c', h1, h2, h3, h4, h5, h6⟩ := h; exact ⟨(t', s', l, A', c'), ⟨by (try dsimp only); omega, h2, h3, h4⟩, h5, h6⟩)) ?_
    rintro ⟨t2, s2, l2, A2, c2⟩ ⟨ht2, hs2, hl2, ho2⟩
    dsimp only at ht2 hs2 hl2 ho2 ⊢
    refine lst_nil ?_
    refine any_next (by repeat (first | exact List.Sublist.refl _ | exact List.nil_sublist _ | refine List.Sublist.cons_cons _ ?_ | refine List.Sublist.cons _ ?_)) ?_
    refine any_one (listed' := [true, true, true, true, true, true, true, false, false].toArray) 6 (by kernel_rfl) rfl rfl ?_
    refine lst_append rfl rfl rfl Tryd.underlying22 F.ti24 rfl rfl rfl (by unfold maxLen; omega) (by omega) ?_
    intro A3 c3
    refine lst_nil ?_
    refine any_next (by repeat (first | exact List.Sublist.refl _ | exact List.nil_sublist _ | refine List.Sublist.cons_cons _ ?_ | refine List.Sublist.cons _ ?_)) ?_
    refine any_one (listed' := [true, true, true, true, true, true, true, true, false].toArray) 7 (by kernel_rfl) rfl rfl ?_
    refine lst_lit (vs := [(0, _), (1, _), (2, _)]) rfl rfl Tryd.underlying29 F.ti22 rfl rfl rfl ?_
    intro b17
    refine lst_nil ?_
    refine any_next (by repeat (first | exact List.Sublist.refl _ | exact List.nil_sublist _ | refine List.Sublist.cons_cons _ ?_ | refine List.Sublist.cons _ ?_)) ?_
    refine any_take (listed' := [true, true, true, true, true, true, true, true, true].toArray) 8 rfl rfl rfl (by kernel_rfl) (by kernel_rfl) (by kernel_rfl) (by repeat (first | exact List.Sublist.refl _ | exact List.nil_sublist _ | refine List.Sublist.cons_cons _ ?_ | refine List.Sublist.cons _ ?_)) (yld_assign rfl) rfl ?_
    refine any_done rfl (by kernel_rfl) ?_
    refine ex_then ?_
    refine cod_ret ?_
    exact ex_ret rfl (fun a w ha => res_one rfl rfl ha) (fun _ _ ha' => ⟨t2, s2, b17, l1, l2, A1, A3, c1, c3, ht2, hs2, hl1, ho1, hl2, ho2, rfl, ha.back (ha'.pck (by repeat (first | exact Pck.nil _ | exact Pck.refl _ | (apply Pck.cons; focus ((repeat (first | exact Rem.here _ | apply Rem.there)); done)) | refine Pck.skip _ ?_)))⟩)

end Go.Proofs.YtofkhehcnfiopaaDoor.N
namespace Go.Proofs.YtofkhehcnfiopaaDoor.N
open Go Go.RowKit Go.Proofs
theorem sel_ex {P : Option Addr → Nat → List RA → Prop} {A0 A1 A2 : Option Addr} {c0 c1 c2 : Nat} {L0 L1 L2 : List RA} (h0 : P A0 c0 L0) (h1 : P A1 c1 L1) (h2 : P A2 c2 L2) {i : Nat} (hi : i < 3) :
    ∃ A c L, ([.slice A0 L0.length c0, .slice A1 L1.length c1, .slice A2 L2.length c2] : List Value)[i]? = some (.slice A L.length c) ∧ P A c L := by
  rcases (show i = 0 ∨ i = 1 ∨ i = 2 by omega) with rfl | rfl | rfl
  · exact ⟨A0, c0, L0, rfl, h0⟩
  · exact ⟨A1, c1, L1, rfl, h1⟩
  · exact ⟨A2, c2, L2, rfl, h2⟩
theorem raw_cells (l : List Ag) : (l.map Ag.raw).flatMap RA.cells = l.flatMap Ag.cells := by
  induction l with
  | nil => rfl
  | cons x l ih => rw [List.map_cons, List.flatMap_cons, List.flatMap_cons, ih]; rfl
theorem raw_wf {x : Ag} (h : x.ok) : x.raw.wf := by
  obtain ⟨h1, h2, h3, h4, _, h5⟩ := h
  refine ⟨?_, ?_, ?_, ?_, ?_⟩ <;> unfold W64 Ag.raw <;> dsimp only <;> omega
theorem Rds.ag {C : Ctx} {T : List Res} {A : Option Addr} {l : List RA} (hc : checkR l = 0) (h : Rds RA.cells 5 C T A l) : Rds Ag.cells 5 C T A (agsOf l) :=
  fun C' fr hp a w ha h1 h2 h3 hm => (h C' fr hp a w ha h1 h2 h3 hm).ag hc
theorem Rds.sub {α : Type} {cells : α → List Value} {size : Nat} {C : Ctx} {T T' : List Res} {A : Option Addr} {l : List α} (h : Rds cells size C T A l) (hs : ∀ r ∈ T, r ∈ T') : Rds cells size C T' A l :=
  fun C' fr hp a w ha h1 h2 h3 hm => h C' fr hp a w ha h1 h2 h3 (fun r hr => hm r (hs r hr))
end Go.Proofs.YtofkhehcnfiopaaDoor.N
namespace Go.Proofs.YtofkhehcnfiopaaDoor.N
open Go Go.RowKit Go.Proofs
theorem F.ent23 : Enters Tryd.prog 23 := enters_of Tryd.func23 rfl (by kernel_rfl)
theorem F.ent33 : Enters Tryd.prog 33 := enters_of Tryd.func33 rfl (by kernel_rfl)
theorem F.one22 : One Tryd.prog 22 := ⟨by unfold aggB; rw [Tryd.underlying22], by rw [Tryd.underlying22]; simp⟩
end Go.Proofs.YtofkhehcnfiopaaDoor.N
namespace Go.Proofs.YtofkhehcnfiopaaDoor.N
open Go Go.RowKit Go.Proofs
section
variable {C : Ctx} {fr : List (Nat × Value)} {hp : List Res} {a : Act} {w : World} {ops : Array Oper} {Q : Exit → Act → World → Prop} {rest : List Oper}
  {d : Nat} {ty : TypeId} {pos : String} {after : Array Edge}
theorem ints_zeros : ∀ n : Nat, ints (List.replicate n 0) = List.replicate n (.int .i64 0)
  | 0 => rfl
  | n + 1 => by rw [List.replicate_succ, List.replicate_succ, ← ints_zeros n]; rfl
theorem madeCells_ints (n : Nat) : madeCells (Value.int .i64 0).cells n = (ints (List.replicate n 0)).toArray := by
  rw [ints_zeros]
  unfold madeCells
  apply Array.toList_inj.1
  apply List.ext_getElem?
  intro i
  by_cases hi : i < n
  · simp [Value.cells, hi, Nat.mod_one]
  · simp [Value.cells, hi]
/-- A slice of numbers that is made. -/
theorem lst_make_ints {t e : TypeId} {x y : Operand} {n : Nat} (hd : Nat.blt d C.N = true) (hx : ev fr x = some (.int .i64 (n : Int))) (hy : ev fr y = some (.int .i64 (n : Int))) (ht : C.P.underlying t = some (.slice e)) (hz : TI C.P e (.int .i64 0) 1 8) (hn : n ≤ 1000000)
    (k : ∀ b, Lst C ops Q rest ((d, .slice (some ⟨b, 0, none⟩) n n) :: fr) (.row e 1 (some ⟨b, 0, none⟩) n n (ints (List.replicate n 0)) :: hp)) : Lst C ops Q (⟨some d, .makeSlice t x y, ty, pos, after, none⟩ :: rest) fr hp := by
  intro a w ha
  obtain ⟨i, hi, hz0, hs, hb⟩ := hz
  refine wpList_plain rfl fun K hK => ?_
  unfold Oper.wp
  have hm : (Instr.makeSlice t (.int .i64 (n : Int)) (.int .i64 (n : Int))).run C.P w = .ok (.slice (some ⟨w.heap.size, 0, none⟩) n n) (w.alloc (.cells (ints (List.replicate n 0)).toArray e)) := by
    have h := run_makeSlice (P := C.P) w t e i (.int .i64 0) ht hi hz0 .i64 .i64 (n : Int) (n : Int) (by omega) (Int.le_refl _) (by rw [hs]; simp; omega) (by rw [hb]; omega) (by omega)
    simp only [Int.toNat_natCast, hs, Nat.mul_one] at h
    rw [h, madeCells_ints]
  have hr : (execOp a.eval ⟨some d, .makeSlice t x y, ty, pos, after, none⟩).run C.P w = .ok (.value (.slice (some ⟨w.heap.size, 0, none⟩) n n)) (w.alloc (.cells (ints (List.replicate n 0)).toArray e)) := by
    simp only [execOp, ha.eval hx, ha.eval hy, Sem.run_bind, hm, Result.andThen_ok, Sem.run_pure]
  rw [hr]
  refine hK _ _ (k w.heap.size _ _ (At.put ?_ (lt_of_blt hd) _))
  have h1 := ha.alloc (.cells (ints (List.replicate n 0)).toArray e)
  have hlen : (ints (List.replicate n 0)).length = n := by rw [ints_zeros, List.length_replicate]
  refine ⟨h1.size, h1.defs, h1.slots, h1.below, h1.base, fun r hr => ?_, ?_⟩
  · rcases List.mem_cons.1 hr with rfl | hr
    · have h2 := h1.own _ (List.mem_cons_self ..)
      exact ⟨by rw [hlen, Nat.mul_one], .inr ⟨_, n, _, rfl, h2.1, h2.2, Nat.le_refl _, by unfold maxLen; omega, by rw [List.size_toArray, hlen, Nat.mul_one], by rw [Nat.mul_one]; exact List.take_of_length_le (by show (ints (List.replicate n 0)).length ≤ n; rw [hlen]; exact Nat.le_refl _)⟩⟩
    · exact h1.own r (List.mem_cons_of_mem _ hr)
  · exact h1.apart
end
end Go.Proofs.YtofkhehcnfiopaaDoor.N
namespace Go.Proofs.YtofkhehcnfiopaaDoor.N
open Go Go.RowKit Go.Proofs
/-! How many agents the shortest ways have: what rounds that go on in place come to. -/
def farN : Nat := 1048576
variable {ags : List Ag} {used p : Nat}
structure RI (ags : List Ag) (used p r m i : Nat) (L : List Nat) : Prop where
  len : L.length = 64
  le : ∀ f, f < 64 → L.getD f 0 ≤ farN
  snd : ∀ f, f < 64 → L.getD f 0 < farN → ∃ c, Wy ags used p f c (L.getD f 0)
  cmp : ∀ f, f < 64 → ∀ c k, Wy ags used p f c k → (k ≤ r ∨ (k ≤ r + 1 ∧ f < m)) → L.getD f 0 ≤ k
  cur : ∀ j, j < i → j ∈ canTo ags used m ags.length → ∀ c k, Wy ags used p (putN (ags.getD j default) m) c k → k ≤ r → L.getD m 0 ≤ k + 1
/-- What the rounds begin with. -/
def initN (p k : Nat) : List Nat := (List.range 64).map fun f => if f < k then (if nn f p = 0 then 0 else farN) else 0
theorem initN_zero (p : Nat) : initN p 0 = List.replicate 64 0 := by
  unfold initN
  simp only [Nat.not_lt_zero, if_false]
  rfl
theorem initN_len (p k : Nat) : (initN p k).length = 64 := by simp [initN]
theorem initN_far {p k : Nat} (hk : k < 64) (h : ¬ nn k p = 0) : (initN p k).set k farN = initN p (k + 1) := by
  apply List.ext_getElem?
  intro f
  rw [List.getElem?_set]
  by_cases hf : f < 64
  · by_cases e : k = f
    · subst e
      simp [initN, hk, h]
    · have e2 : (f < k + 1) = (f < k) := propext (by omega)
      simp only [if_neg e]
      simp [initN, hf, e2]
  · have e : k ≠ f := by omega
    simp [initN, hf, e]
theorem initN_set0 {p k : Nat} (hk : k < 64) (h : nn k p = 0) : ((initN p k).set k farN).set k 0 = initN p (k + 1) := by
  rw [List.set_set]
  apply List.ext_getElem?
  intro f
  rw [List.getElem?_set]
  by_cases hf : f < 64
  · by_cases e : k = f
    · subst e
      simp [initN, hk, h]
    · have e2 : (f < k + 1) = (f < k) := propext (by omega)
      simp only [if_neg e]
      simp [initN, hf, e2]
  · have e : k ≠ f := by omega
    simp [initN, hf, e]
theorem getN_set {L : List Nat} {f g x : Nat} (hf : f < L.length) : (L.set f x).getD g 0 = if f = g then x else L.getD g 0 := by
  rw [List.getD_eq_getElem?_getD, List.getElem?_set, List.getD_eq_getElem?_getD]
  by_cases e : f = g
  · subst e
    rw [if_pos rfl, if_pos rfl, if_pos hf]; rfl
  · rw [if_neg e, if_neg e]
theorem initN_getD {p f : Nat} (hf : f < 64) : (initN p 64).getD f 0 = if nn f p = 0 then 0 else farN := by
  simp [initN, List.getD_eq_getElem?_getD, hf]
theorem RI.start : RI ags used p 0 0 0 (initN p 64) where
  len := initN_len p 64
  le f hf := by rw [initN_getD hf]; split <;> simp [farN]
  snd f hf h := by
    rw [initN_getD hf] at h ⊢
    by_cases h0 : nn f p = 0
    · rw [if_pos h0]; exact ⟨0, .done h0⟩
    · rw [if_neg h0] at h; exact absurd h (Nat.lt_irrefl _)
  cmp f hf c k h hk := by
    have hk0 : k = 0 := by omega
    subst hk0
    rw [initN_getD hf]
    cases h with
    | done h0 => rw [if_pos h0]; exact Nat.le_refl _
  cur j hj := absurd hj (Nat.not_lt_zero _)
theorem RI.skip {r m i : Nat} {L : List Nat} (h : RI ags used p r m i L) (hi : i ∉ canTo ags used m ags.length) : RI ags used p r m (i + 1) L :=
  { h with
    cur := fun j hj hc => by
      rcases Nat.lt_succ_iff_lt_or_eq.1 hj with h1 | rfl
      · exact h.cur j h1 hc
      · exact absurd hc hi }
theorem RI.put {r m i : Nat} {L : List Nat} (hok : Oks ags) (h : RI ags used p r m i L) (hm : m < 64) (hi : i ∈ canTo ags used m ags.length) :
    RI ags used p r m (i + 1) (L.set m (min (L.getD m 0) (1 + L.getD (putN (ags.getD i default) m) 0))) := by
  have hil := (can_mem.1 hi).1
  have hxo : (ags.getD i default).ok := hok.2 _ (by rw [List.getD_eq_getElem?_getD, List.getElem?_eq_getElem hil]; exact List.getElem_mem hil)
  have hg : putN (ags.getD i default) m < 64 := putN_lt hxo hm
  have hml : m < L.length := by rw [h.len]; exact hm
  have dec : ∀ f, (L.set m (min (L.getD m 0) (1 + L.getD (putN (ags.getD i default) m) 0))).getD f 0 ≤ L.getD f 0 := fun f => by
    rw [getN_set hml]
    by_cases e : m = f
    · subst e; rw [if_pos rfl]; exact Nat.min_le_left _ _
    · rw [if_neg e]; exact Nat.le_refl _
  refine ⟨by rw [List.length_set]; exact h.len, fun f hf => Nat.le_trans (dec f) (h.le f hf), fun f hf hlt => ?_, fun f hf c k hw hk => Nat.le_trans (dec f) (h.cmp f hf c k hw hk), fun j hj hc c k hw hk => ?_⟩
  · rw [getN_set hml] at hlt ⊢
    by_cases e : m = f
    · subst e
      rw [if_pos rfl] at hlt ⊢
      rcases Nat.le_total (L.getD m 0) (1 + L.getD (putN (ags.getD i default) m) 0) with h1 | h1
      · rw [Nat.min_eq_left h1] at hlt ⊢
        exact h.snd m hm hlt
      · rw [Nat.min_eq_right h1] at hlt ⊢
        obtain ⟨c, hc⟩ := h.snd _ hg (by omega)
        rw [Nat.add_comm]
        exact ⟨_, .step hi hc⟩
    · rw [if_neg e] at hlt ⊢
      exact h.snd f hf hlt
  · rcases Nat.lt_succ_iff_lt_or_eq.1 hj with h1 | rfl
    · exact Nat.le_trans (dec m) (h.cur j h1 hc c k hw hk)
    · rw [getN_set hml, if_pos rfl]
      have := h.cmp _ hg c k hw (.inl hk)
      omega
theorem RI.next {r m : Nat} {L : List Nat} (h : RI ags used p r m ags.length L) (hm : m < 64) : RI ags used p r (m + 1) 0 L :=
  { h with
    cmp := fun f hf c k hw hk => by
      by_cases h0 : k ≤ r ∨ (k ≤ r + 1 ∧ f < m)
      · exact h.cmp f hf c k hw h0
      · have hfm : f = m := by omega
        subst hfm
        cases hw with
        | done h1 => exact h.cmp f hf 0 0 (.done h1) (.inl (Nat.zero_le _))
        | step hi hw' => exact h.cur _ (can_mem.1 hi).1 hi _ _ hw' (by omega)
    cur := fun j hj => absurd hj (Nat.not_lt_zero _) }
theorem RI.round {r : Nat} {L : List Nat} (h : RI ags used p r 64 0 L) : RI ags used p (r + 1) 0 0 L :=
  { h with
    cmp := fun f hf c k hw hk => h.cmp f hf c k hw (by omega)
    cur := fun j hj => absurd hj (Nat.not_lt_zero _) }
/-- What the reference's numbers say of each melt. -/
structure Dst (ags : List Ag) (used p : Nat) (L : List Nat) : Prop where
  len : L.length = 64
  far : ∀ f, f < 64 → (L.getD f 0 = farN ↔ ¬ Clr ags used p f)
  way : ∀ f, f < 64 → L.getD f 0 ≠ farN → L.getD f 0 ≤ 63 ∧ (∃ c, Wy ags used p f c (L.getD f 0)) ∧ ∀ c k, Wy ags used p f c k → L.getD f 0 ≤ k
theorem RI.dst {L : List Nat} (hok : Oks ags) (h : RI ags used p 64 0 0 L) : Dst ags used p L := by
  have short : ∀ f, f < 64 → Clr ags used p f → L.getD f 0 ≤ 63 ∧ ∀ c k, Wy ags used p f c k → L.getD f 0 ≤ k := fun f hf ⟨c, k, hw⟩ => by
    obtain ⟨c', k', ho⟩ := Opt.ex hw
    have h63 := Opt.short hok hf ho
    have h1 := h.cmp f hf _ _ ho.1 (.inl (by omega))
    refine ⟨by omega, fun c2 k2 hw2 => ?_⟩
    by_cases h2 : k2 ≤ 64
    · exact h.cmp f hf c2 k2 hw2 (.inl h2)
    · omega
  have far_ : ∀ f, f < 64 → (L.getD f 0 = farN ↔ ¬ Clr ags used p f) := fun f hf => by
    constructor
    · intro e hc
      have := (short f hf hc).1
      rw [e] at this
      simp [farN] at this
    · intro hc
      have h1 := h.le f hf
      by_cases e : L.getD f 0 = farN
      · exact e
      · obtain ⟨c, hw⟩ := h.snd f hf (by omega)
        exact absurd ⟨c, _, hw⟩ hc
  refine ⟨h.len, far_, fun f hf hne => ?_⟩
  obtain ⟨c, hw⟩ := h.snd f hf (by have := h.le f hf; omega)
  have := short f hf ⟨c, _, hw⟩
  exact ⟨this.1, ⟨c, hw⟩, this.2⟩
theorem RI.same {r m i f : Nat} {L : List Nat} (h : RI ags used p r m i L) (hf : f < 64) : L.set f (min (L.getD f 0) farN) = L := by
  rw [Nat.min_eq_left (h.le f hf)]
  apply List.ext_getElem?
  intro g
  rw [List.getElem?_set]
  by_cases e : f = g
  · subst e
    have : f < L.length := by rw [h.len]; exact hf
    rw [if_pos rfl, if_pos this, List.getD_eq_getElem?_getD, List.getElem?_eq_getElem this]; rfl
  · rw [if_neg e]
end Go.Proofs.YtofkhehcnfiopaaDoor.N
