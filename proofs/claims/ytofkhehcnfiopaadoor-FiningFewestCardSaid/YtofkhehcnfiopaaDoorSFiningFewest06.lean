/- Parts of the walks of the laws on fining, those that FiningFewest needs: F22, Clr2, F23, Ned, More, F25, Shuf, Ref, Rds, PutS, PutL, Raw, All, Eqa, Puts, Sx12, Dist, BothP, Sx13, Far2, All4, ChsP, FewP, FewQ, Sx14, Sx15, Sx16, F48, ItP, F49, F50. -/
import Derived.Test.YtofkhehcnfiopaaDoorSFiningFewest05
import Derived.Test.YtofkhehcnfiopaaDoorProg
import Derived.LaidEql
import Derived.Stop.Asserts
import Derived.RowKitTokens
import Derived.DeepKeys3
import Derived.Test.YtofkhehcnfiopaaDoorSFiningFewest04
import Derived.Test.YtofkhehcnfiopaaDoorSFiningFewest01
import Derived.RangeFuncSeq
import Derived.TacticsIn
import Derived.RecoverIn
import Derived.Test.YtofkhehcnfiopaaDoorSFiningFewest02
namespace Go.Proofs.YtofkhehcnfiopaaDoor.N
open Go Go.RowKit Go.Proofs
theorem F.agg97 : aggB Tryd.prog 97 = true := by unfold aggB; rw [Tryd.underlying97]
theorem F.ent104 : Enters Tryd.prog 104 := enters_of Tryd.func104 rfl (by kernel_rfl)
theorem F.ent121 : Enters Tryd.prog 121 := enters_of Tryd.func121 rfl (by kernel_rfl)
theorem mhas_c (n f : Nat) (hn : n < 18446744073709551616) (w : World) : Calls Tryd.prog 104 #[.int .u64 (n : Int), .int .u8 (f : Int)] w fun e w' => e = .returned (.bool (n.testBit f)) ∧ Grew w w' [] := by
  have hs1 : n >>> (min f 64) < 18446744073709551616 := Nat.lt_of_le_of_lt (by rw [Nat.shiftRight_eq_div_pow]; exact Nat.div_le_self _ _) hn
  refine enter (N := 10) [(0, .int .u64 (n : Int)), (1, .int .u8 (f : Int))] Tryd.func104 rfl Tryd.ntmps104 rfl rfl ?_
  refine cod_seq ?_
  refine cod_region ?_
  refine lst_assign rfl rfl ?_
  refine lst_nil ?_
  refine ex_then ?_
  refine cod_seq ?_
  refine cod_region ?_
  refine lst_move rfl rfl ?_
  refine lst_move rfl rfl ?_
  refine lst_shr rfl rfl rfl (by omega) (fdiv_shr _ _ _) ?_
  refine lst_int rfl rfl rfl (fun w => bin_and w (u64_and _ 1 hs1 (by omega))) ?_
  refine lst_int rfl rfl rfl bin_eql ?_
  refine lst_assign rfl rfl ?_
  refine lst_nil ?_
  refine ex_then ?_
  refine cod_ret ?_
  refine ex_ret rfl (fun a w ha => res_one rfl rfl ha) (fun a w ha => ?_)
  exact ⟨by rw [← bit_test n f 64 hn]; rfl, ha.grown (List.nil_sublist _)⟩

theorem mwith_c (n f : Nat) (hn : n < 18446744073709551616) (hf : f < 64) (w : World) : Calls Tryd.prog 121 #[.int .u64 (n : Int), .int .u8 (f : Int)] w fun e w' => e = .returned (.int .u64 ((n ||| 1 <<< f : Nat) : Int)) ∧ Grew w w' [] := by
  refine enter (N := 9) [(0, .int .u64 (n : Int)), (1, .int .u8 (f : Int))] Tryd.func121 rfl Tryd.ntmps121 rfl rfl ?_
  refine cod_seq ?_
  refine cod_region ?_
  refine lst_assign rfl rfl ?_
  refine lst_nil ?_
  refine ex_then ?_
  refine cod_seq ?_
  refine cod_region ?_
  refine lst_move rfl rfl ?_
  refine lst_move rfl rfl ?_
  refine lst_shl rfl rfl rfl (by omega) (shl_u64 hf) ?_
  refine lst_int rfl rfl rfl (fun w => bin_or w (u64_or _ _ hn (shl_lt hf))) ?_
  refine lst_assign rfl rfl ?_
  refine lst_nil ?_
  refine ex_then ?_
  refine cod_ret ?_
  refine ex_ret rfl (fun a w ha => res_one rfl rfl ha) (fun a w ha => ?_)
  exact ⟨by rfl, ha.grown (List.nil_sublist _)⟩

theorem mlist_c (n : Nat) (hn : n < 18446744073709551616) (w : World) : Calls Tryd.prog 101 #[.int .u64 (n : Int)] w fun e w' => ∃ A c, e = .returned (.slice A (listN n 64).length c) ∧ Grew w w' [.row 3 1 A (listN n 64).length c (ints (listN n 64))] := by
  refine enter (N := 18) [(0, .int .u64 (n : Int))] Tryd.func101 rfl Tryd.ntmps101 rfl rfl ?_
  refine cod_seq ?_
  refine cod_region ?_
  refine lst_assign rfl rfl ?_
  refine lst_nil ?_
  refine ex_then ?_
  refine cod_seq ?_
  refine cod_region ?_
  refine lst_assign rfl rfl ?_
  refine lst_nil ?_
  refine ex_then ?_
  refine cod_seq ?_
  refine cod_seq ?_
  refine cod_region ?_
  refine lst_move rfl rfl ?_
  refine lst_nil ?_
  refine ex_then ?_
  refine cod_block ?_
  refine cod_nil 3 1 ?_
  refine cod_loop (G := Nat × Option Addr × Nat) (fun g => g.1 ≤ 64) (fun g => 64 - g.1) (fun g => [(0, .int .u64 (n : Int)), (3, .slice g.2.1 (listN n g.1).length g.2.2), (5, .int .i64 (g.1 : Int))]) (fun g => [.row 3 1 g.2.1 (listN n g.1).length g.2.2 (ints (listN n g.1))]) (0, none, 0) (Nat.zero_le _) (by repeat (first | exact Sub.nil _ | refine Sub.cons rfl ?_)) (by repeat (first | exact List.Sublist.refl _ | exact List.nil_sublist _ | refine List.Sublist.cons_cons _ ?_ | refine List.Sublist.cons _ ?_)) ?_
  rintro ⟨k, A1, c1⟩ hk
  (try dsimp only at hk ⊢)
  refine cod_seq ?_
  refine cod_region ?_
  refine lst_int rfl rfl rfl bin_lss ?_
  refine lst_nil ?_
  refine ex_then ?_
  refine cod_seq ?_
  refine cod_cond_dec rfl (fun hc0 => ?_) (fun hc0 => ?_)
  · skip
    have hk64 : k < 64 := by omega
    refine cod_skip ?_
    refine ex_then ?_
    refine cod_seq ?_
    refine cod_block ?_
    refine cod_seq ?_
    refine cod_region ?_
    refine lst_move rfl rfl ?_
    refine lst_assign rfl rfl ?_
    refine lst_nil ?_
    refine ex_then ?_
    refine cod_seq ?_
    refine cod_region ?_
    refine lst_move rfl rfl ?_
    refine lst_move rfl rfl ?_
    refine lst_convert rfl rfl Tryd.underlying3 Tryd.underlying77 (wrap_u8 _ (by omega)) ?_
    refine lst_fn0 (vs := [_, _]) rfl rfl F.ent104 (fun a w ha => mhas_c n k hn w) ?_
    refine lst_nil ?_
    refine ex_then ?_
    refine cod_cond_bool rfl (fun hc1 => ?_) (fun hc1 => ?_)
    · skip
      refine cod_region ?_
      refine lst_move rfl rfl ?_
      refine lst_move rfl rfl ?_
      refine lst_lit (vs := [(0, _)]) rfl rfl Tryd.underlying25 F.ti3 rfl rfl rfl ?_
      intro b14
      refine lst_append rfl rfl rfl Tryd.underlying25 F.ti3 rfl rfl rfl (by have := listN_len n k; unfold maxLen; omega) (by have := listN_len n k; omega) ?_
      intro A2 c2
      refine lst_assign rfl rfl ?_
      refine lst_nil ?_
      refine ex_block_normal ?_
      refine ex_then ?_
      refine cod_region ?_
      refine lst_int rfl rfl rfl (fun w => bin_add w (wrap_i64' _ (by omega) (by omega))) ?_
      refine lst_move rfl rfl ?_
      refine lst_nil ?_
      have e := listN_succ n k
      rw [if_pos hc1] at e
      refine ex_round (k + 1, A2, c2) (by (try dsimp only); omega) (by (try dsimp only); omega) (by (try dsimp only); (try rw [e]); simp only [List.length_append, List.length_singleton]; repeat (first | exact Sub.nil _ | refine Sub.cons rfl ?_)) (by (try dsimp only); (try rw [e]); simp only [ints_snoc, List.length_append, List.length_singleton]; repeat (first | exact List.Sublist.refl _ | exact List.nil_sublist _ | refine List.Sublist.cons_cons _ ?_ | refine List.Sublist.cons _ ?_))
    · skip
      refine cod_skip ?_
      refine ex_block_normal ?_
      refine ex_then ?_
      refine cod_region ?_
      refine lst_int rfl rfl rfl (fun w => bin_add w (wrap_i64' _ (by omega) (by omega))) ?_
      refine lst_move rfl rfl ?_
      refine lst_nil ?_
      have e := listN_succ n k
      rw [if_neg (by rw [hc1]; simp), List.append_nil] at e
      refine ex_round (k + 1, A1, c1) (by (try dsimp only); omega) (by (try dsimp only); omega) (by (try dsimp only); (try rw [e]); repeat (first | exact Sub.nil _ | refine Sub.cons rfl ?_)) (by (try dsimp only); (try rw [e]); repeat (first | exact List.Sublist.refl _ | exact List.nil_sublist _ | refine List.Sublist.cons_cons _ ?_ | refine List.Sublist.cons _ ?_))
  · skip
    refine cod_exit ?_
    refine ex_then_exit ?_
    refine ex_then_exit ?_
    refine ex_block_exit ?_
    refine ex_then ?_
    refine cod_seq ?_
    refine cod_region ?_
    refine lst_move rfl rfl ?_
    refine lst_assign rfl rfl ?_
    refine lst_nil ?_
    refine ex_then ?_
    refine cod_ret ?_
    obtain rfl : k = 64 := by omega
    exact ex_ret rfl (fun a w ha => res_one rfl rfl ha) (fun a w ha => ⟨A1, c1, rfl, ha.grown (by repeat (first | exact List.Sublist.refl _ | exact List.nil_sublist _ | refine List.Sublist.cons_cons _ ?_ | refine List.Sublist.cons _ ?_))⟩)

theorem hopeful_c {C : Ctx} {fr : List (Nat × Value)} {T : List Res} {a : Act} {w : World} (hC : C.P = Tryd.prog) {ags : List Ag} {used p cg : Nat} {aA : Option Addr} (hok : Oks ags) (hu : used < 256) (hp : p < 64) (hAg : Res.row 89 5 aA ags.length cg (ags.flatMap Ag.cells) ∈ T) (ha : At C fr (T) a w) : Calls C.P 100 #[.agg [.slice aA ags.length cg, .int .u8 (used : Int)].toArray, .int .u8 (p : Int)] w fun e w' => ∃ n, SetN n (Clr ags used p) ∧ e = .returned (.int .u64 (n : Int)) ∧ At C fr T a w' := by
  obtain ⟨P, B, w0, N0, ds⟩ := C
  obtain rfl : P = Tryd.prog := hC
  (try dsimp only at hB)
  (try dsimp only at hN)
  refine enter_in (N := 26) [(0, .agg [.slice aA ags.length cg, .int .u8 (used : Int)].toArray), (1, .int .u8 (p : Int))] ha Tryd.func100 rfl Tryd.ntmps100 rfl rfl ?_
  refine cod_seq ?_
  refine cod_region ?_
  refine lst_box rfl rfl ?_
  intro b2
  refine lst_assign rfl rfl ?_
  refine lst_nil ?_
  refine ex_then ?_
  refine cod_seq ?_
  refine cod_region ?_
  refine lst_assign rfl rfl ?_
  refine lst_nil ?_
  refine ex_then ?_
  refine cod_seq ?_
  refine cod_seq ?_
  refine cod_region ?_
  refine lst_loadN rfl rfl F.agg75 F.ti75 ?_
  refine lst_move rfl rfl ?_
  refine lst_call (X := Nat × Nat) (first := []) (cap := []) (vs := [_, _]) (p := fun y => (roundP ags used (iterP ags used p y.1) 64).2 = false) (val := fun y => .pointer (some ⟨y.2, 0, none⟩)) (rs := fun y => .blk y.2 (.cells (mcells (.func (.func 116) #[] #[]) (iterP ags used p (y.1 + 1))).toArray 99 (0, 0)) :: .blk b2 (.cells [.slice aA ags.length cg, .int .u8 (used : Int)].toArray 75 (0, 0)) :: T) rfl rfl rfl F.ent88 (fun a w ha => by
    obtain ⟨N, h64, hN⟩ := fix_all (ags := ags) (used := used) (p := p) hok
    exact (prices_c rfl hok hu hp h64 hN (by simp [hAg]) ha).mono (fun e w' h => by obtain ⟨j, b, h1, h2, h3, h4⟩ := h; exact ⟨(j, b), h2, h3, h4⟩)) ?_
  rintro ⟨j, bm⟩ hfx
  dsimp only at hfx ⊢
  have hsame : iterP ags used p (j + 1) = iterP ags used p j := (round_ch 64 hfx).1
  rw [hsame]
  have hBd := Bd.iter (used := used) (p := p) hok j
  have hkn : ∀ f, f < 64 → (((iterP ags used p j).getD f default).known = true ↔ Clr ags used p f) := fun f hf => known_clr hok hfx hf
  obtain ⟨ps, hpsd⟩ : ∃ ps, iterP ags used p j = ps := ⟨_, rfl⟩
  rw [hpsd] at hBd hkn hfx ⊢
  refine lst_nilCheck rfl rfl ?_
  refine lst_field_z rfl rfl F.fi99_1 F.ti97 ?_
  refine lst_loadN_at (l := ps.flatMap Pr.cells) rfl rfl F.agg97 F.ti97 (by have := mcells_len (.func (.func 116) #[] #[]) ps; rw [hBd.1] at this; simp [mcells] at this; simpa using this) (fun a w ha j u hu => cell_of_blk (ha.mem_blk (InB.mem (b := bm))) (by rw [Nat.add_comm 1 j]; exact hu)) ?_
  refine lst_move rfl rfl ?_
  refine lst_nil ?_
  refine ex_then ?_
  refine cod_block ?_
  refine cod_loop' (G := Nat × Nat) (fun g => g.1 ≤ 64 ∧ g.2 < 18446744073709551616 ∧ ∀ f, f < 64 → (g.2.testBit f = true ↔ f < g.1 ∧ Clr ags used p f)) (fun g => 64 - g.1) (fun g => [(1, .int .u8 (p : Int)), (5, .int .u64 (g.2 : Int)), (13, .agg (ps.flatMap Pr.cells).toArray), (14, .int .i64 (g.1 : Int))]) (fun g => T) (0, 0) ⟨Nat.zero_le _, by decide, fun f _ => ⟨fun h => by simp at h, fun h => absurd h.1 (by omega)⟩⟩ (by repeat (first | exact Sub.nil _ | refine Sub.cons rfl ?_)) (by repeat (first | exact Pck.nil _ | exact Pck.refl _ | (apply Pck.cons; focus ((repeat (first | exact Rem.here _ | apply Rem.there)); done)) | refine Pck.skip _ ?_)) ?_
  rintro ⟨k, n⟩ ⟨hk64, hn, hI⟩
  dsimp only at hk64 hn hI ⊢
  refine cod_seq ?_
  refine cod_region ?_
  refine lst_int rfl rfl rfl bin_lss ?_
  refine lst_nil ?_
  refine ex_then ?_
  refine cod_seq ?_
  refine cod_cond_dec rfl (fun hc0 => ?_) (fun hc0 => ?_)
  · skip
    have hk' : k < 64 := by omega
    refine cod_skip ?_
    refine ex_then ?_
    refine cod_seq ?_
    refine cod_block ?_
    refine cod_seq ?_
    refine cod_region ?_
    refine lst_move rfl rfl ?_
    refine lst_index_v (j := k) (l := [.int .i64 ((ps.getD k default).cost : Int), .int .i64 ((ps.getD k default).puts : Int), .bool (ps.getD k default).known]) rfl rfl rfl Tryd.underlying97 F.agg95 F.ti95 rfl hk' (drop_pr ps k (by rw [hBd.1]; exact hk')) ?_
    refine lst_alloc rfl F.ti95 ?_
    intro b7
    refine lst_assign rfl rfl ?_
    refine lst_store rfl rfl F.ti95 rfl ?_
    refine lst_nil ?_
    refine ex_then ?_
    refine cod_seq ?_
    refine cod_region ?_
    refine lst_field_z rfl rfl F.fi95_2 F.ti4 ?_
    refine lst_load rfl rfl F.one4 ?_
    refine lst_nil ?_
    refine ex_then ?_
    refine cod_cond_bool rfl (fun hc1 => ?_) (fun hc1 => ?_)
    · skip
      refine cod_region ?_
      refine lst_move rfl rfl ?_
      refine lst_move rfl rfl ?_
      refine lst_convert rfl rfl Tryd.underlying3 Tryd.underlying77 (wrap_u8 _ (by omega)) ?_
      refine lst_fn0 (vs := [_, _]) rfl rfl F.ent121 (fun a w ha => mwith_c n k hn hk' w) ?_
      refine lst_assign rfl rfl ?_
      refine lst_nil ?_
      refine ex_block_normal ?_
      refine ex_then ?_
      refine cod_region ?_
      refine lst_int rfl rfl rfl (fun w => bin_add w (wrap_i64' _ (by omega) (by omega))) ?_
      refine lst_move rfl rfl ?_
      refine lst_nil ?_
      refine ex_round' (k + 1, n ||| 1 <<< k) ⟨by omega, or_one_lt hn hk', fun f hf => ?_⟩ (by (try dsimp only); omega) (by repeat (first | exact Sub.nil _ | refine Sub.cons rfl ?_)) (by repeat (first | exact Pck.nil _ | exact Pck.refl _ | (apply Pck.cons; focus ((repeat (first | exact Rem.here _ | apply Rem.there)); done)) | refine Pck.skip _ ?_))
      rw [testBit_or_one, Bool.or_eq_true, decide_eq_true_eq, hI f hf]
      have := (hkn k hk').1 hc1
      constructor
      · rintro (h | h)
        · exact ⟨by omega, h.2⟩
        · subst h; exact ⟨by omega, this⟩
      · rintro ⟨h1, h2⟩
        rcases Nat.lt_or_ge f k with h | h
        · exact .inl ⟨h, h2⟩
        · exact .inr (by omega)
    · skip
      refine cod_skip ?_
      refine ex_block_normal ?_
      refine ex_then ?_
      refine cod_region ?_
      refine lst_int rfl rfl rfl (fun w => bin_add w (wrap_i64' _ (by omega) (by omega))) ?_
      refine lst_move rfl rfl ?_
      refine lst_nil ?_
      refine ex_round' (k + 1, n) ⟨by omega, hn, fun f hf => ?_⟩ (by (try dsimp only); omega) (by repeat (first | exact Sub.nil _ | refine Sub.cons rfl ?_)) (by repeat (first | exact Pck.nil _ | exact Pck.refl _ | (apply Pck.cons; focus ((repeat (first | exact Rem.here _ | apply Rem.there)); done)) | refine Pck.skip _ ?_))
      rw [hI f hf]
      have hno : ¬ Clr ags used p k := fun h => by have := (hkn k hk').2 h; rw [hc1] at this; cases this
      constructor
      · rintro ⟨h1, h2⟩
        exact ⟨by omega, h2⟩
      · rintro ⟨h1, h2⟩
        rcases Nat.lt_or_ge f k with h | h
        · exact ⟨h, h2⟩
        · obtain rfl : f = k := by omega
          exact absurd h2 hno
  · skip
    refine cod_exit ?_
    refine ex_then_exit ?_
    refine ex_then_exit ?_
    refine ex_block_exit ?_
    refine ex_then ?_
    refine cod_seq ?_
    refine cod_region ?_
    refine lst_move rfl rfl ?_
    refine lst_assign rfl rfl ?_
    refine lst_nil ?_
    refine ex_then ?_
    refine cod_ret ?_
    obtain rfl : k = 64 := by omega
    exact ex_ret rfl (fun a w ha => res_one rfl rfl ha) (fun _ _ ha' => ⟨n, ⟨hn, fun f hf => (hI f hf).trans ⟨fun h => h.2, fun h => ⟨hf, h⟩⟩⟩, rfl, ha.back (ha'.pck (by repeat (first | exact Pck.nil _ | exact Pck.refl _ | (apply Pck.cons; focus ((repeat (first | exact Rem.here _ | apply Rem.there)); done)) | refine Pck.skip _ ?_)))⟩)

end Go.Proofs.YtofkhehcnfiopaaDoor.N
namespace Go.Proofs.YtofkhehcnfiopaaDoor.N
open Go Go.RowKit Go.Proofs
open Classical in
noncomputable def fltP (q : Nat → Prop) (l : List Nat) : List Nat := l.filter fun i => decide (q i)
theorem fltP_len (q : Nat → Prop) (l : List Nat) : (fltP q l).length ≤ l.length := List.length_filter_le _ _
theorem fltP_mem {q : Nat → Prop} {l : List Nat} {i : Nat} : i ∈ fltP q l ↔ i ∈ l ∧ q i := by
  unfold fltP
  rw [List.mem_filter]
  simp
theorem fltP_congr {q r : Nat → Prop} {l : List Nat} (h : ∀ i ∈ l, (q i ↔ r i)) : fltP q l = fltP r l := by
  unfold fltP
  refine List.filter_congr fun i hi => ?_
  simp [h i hi]
theorem listN_flt {n : Nat} {q : Nat → Prop} (h : SetN n q) : listN n 64 = fltP q (List.range 64) := by
  unfold listN fltP
  refine List.filter_congr fun f hf => ?_
  have := h.2 f (List.mem_range.1 hf)
  cases e : n.testBit f with
  | true => rw [e] at this; simp [this.1 rfl]
  | false => rw [e] at this; simp; intro hq; have := this.2 hq; cases this
theorem shl_u8 {k : Nat} (hk : k < 8) : IntKind.u8.wrap (1 * 2 ^ (min ((k : Int)).toNat 8)) = ((1 <<< k : Nat) : Int) := by
  rw [Int.toNat_natCast, Nat.min_eq_left (by omega), Nat.one_shiftLeft, Int.one_mul]
  have h1 : 2 ^ k < 2 ^ 8 := Nat.pow_lt_pow_right (by omega) hk
  have h2 := wrap_u8 (2 ^ k) h1
  rw [← h2]
  congr 1
theorem shl8_lt {k : Nat} (hk : k < 8) : 1 <<< k < 256 := by
  rw [Nat.one_shiftLeft]
  exact show _ < 2 ^ 8 from Nat.pow_lt_pow_right (by omega) hk
noncomputable def hopeL (ags : List Ag) (p : Nat) : List Nat := fltP (fun f => ¬ Clr ags (usedAll ags.length) p f) (List.range 64)
end Go.Proofs.YtofkhehcnfiopaaDoor.N
namespace Go.Proofs.YtofkhehcnfiopaaDoor.N
open Go Go.RowKit Go.Proofs
theorem F.ent100 : Enters Tryd.prog 100 := enters_of Tryd.func100 rfl (by kernel_rfl)
theorem F.ent101 : Enters Tryd.prog 101 := enters_of Tryd.func101 rfl (by kernel_rfl)
theorem Hopeless_ok (A : Option Addr) (c : Nat) (ags : List Ag) (hok : Oks ags) (p : Nat) (hp : p < 64) (w : World) (hA : RdL Ag.cells 5 w A ags) : Calls Tryd.prog 51 #[.slice A ags.length c, .int .i64 (p : Int)] w fun e w' => ∃ A' c', e = .returned (.tuple #[.slice A' (hopeL ags p).length c', .int .i64 0]) ∧ Grew w w' [.row 3 1 A' (hopeL ags p).length c' (ints (hopeL ags p))] := by
  have hua : usedAll ags.length < 256 := by have := usedAll_lt hok.1; omega
  refine enter_defers (N := 15) [(0, .slice A ags.length c), (1, .int .i64 (p : Int))] Tryd.func51 rfl Tryd.ntmps51 rfl rfl ?_
  refine cod_seq ?_
  refine cod_region ?_
  refine lst_assign rfl rfl ?_
  refine lst_alloc rfl F.ti35 ?_
  intro b5
  refine lst_nil ?_
  refine ex_then ?_
  refine cod_seq ?_
  refine cod_region ?_
  refine lst_defer (first := []) (cap := []) (vs := [_]) rfl rfl ?_
  refine lst_nil ?_
  refine ex_then ?_
  refine cod_seq ?_
  refine cod_region ?_
  refine lst_move rfl rfl ?_
  refine lst_fn (X := Option Addr × Nat) (vs := [_]) (p := fun _ => True) (val := fun x => .agg [.slice x.1 ags.length x.2, .int .u8 (usedAll ags.length : Nat)].toArray) (rs := fun x => [.row 89 5 x.1 ags.length x.2 (ags.flatMap Ag.cells)]) rfl rfl F.ent75 (fun a w ha => (begin_ok A c ags hok w (hA.later ha.below)).mono (fun e w' h => by obtain ⟨A', c', h1, h2⟩ := h; exact ⟨(A', c'), trivial, h1, h2⟩)) ?_
  rintro ⟨aA, cg⟩ -
  dsimp only [List.cons_append, List.nil_append]
  refine lst_alloc rfl F.ti75 ?_
  intro b6
  refine lst_store rfl rfl F.ti75 rfl ?_
  refine lst_nil ?_
  refine ex_then ?_
  refine cod_seq ?_
  refine any_begin [.b b5] F.follows 8 rfl [false, false, false, false, false, false, false, false] rfl ?_
  refine any_take (listed' := [true, false, false, false, false, false, false, false].toArray) 0 rfl rfl rfl (by kernel_rfl) (by kernel_rfl) (by kernel_rfl) (by repeat (first | exact List.Sublist.refl _ | exact List.nil_sublist _ | refine List.Sublist.cons_cons _ ?_ | refine List.Sublist.cons _ ?_)) (yld_loadN rfl F.agg75 F.ti75) rfl ?_
  refine any_take (listed' := [true, true, false, false, false, false, false, false].toArray) 1 rfl rfl rfl (by kernel_rfl) (by kernel_rfl) (by kernel_rfl) (by repeat (first | exact List.Sublist.refl _ | exact List.nil_sublist _ | refine List.Sublist.cons_cons _ ?_ | refine List.Sublist.cons _ ?_)) (yld_move rfl) rfl ?_
  refine any_one (listed' := [true, true, true, false, false, false, false, false].toArray) 2 (by kernel_rfl) rfl rfl ?_
  refine lst_fn0 (vs := [_]) rfl rfl F.ent76 (fun a w ha => melt_ok p hp w) ?_
  refine lst_nil ?_
  refine any_next (by repeat (first | exact List.Sublist.refl _ | exact List.nil_sublist _ | refine List.Sublist.cons_cons _ ?_ | refine List.Sublist.cons _ ?_)) ?_
  refine any_one (listed' := [true, true, true, true, false, false, false, false].toArray) 3 (by kernel_rfl) rfl rfl ?_
  refine lst_call (X := Nat) (first := []) (cap := []) (vs := [_, _]) (p := fun n => SetN n (Clr ags (usedAll ags.length) p)) (val := fun n => .int .u64 (n : Int)) (rs := fun _ => .blk b6 (.cells [.slice aA ags.length cg, .int .u8 (usedAll ags.length : Nat)].toArray 75 (0, 0)) :: .row 89 5 aA ags.length cg (ags.flatMap Ag.cells) :: [.blk b5 (.cells [.int .i64 0].toArray 35 (0, 0))]) rfl rfl rfl F.ent100 (fun a w ha => (hopeful_c rfl hok hua hp (by simp) ha).mono (fun e w' h => h)) ?_
  intro n hset
  dsimp only at hset ⊢
  refine lst_nil ?_
  refine any_next (by repeat (first | exact List.Sublist.refl _ | exact List.nil_sublist _ | refine List.Sublist.cons_cons _ ?_ | refine List.Sublist.cons _ ?_)) ?_
  refine any_one (listed' := [true, true, true, true, true, false, false, false].toArray) 4 (by kernel_rfl) rfl rfl ?_
  refine lst_not64 rfl rfl hset.1 rfl ?_
  refine lst_nil ?_
  refine any_next (by repeat (first | exact List.Sublist.refl _ | exact List.nil_sublist _ | refine List.Sublist.cons_cons _ ?_ | refine List.Sublist.cons _ ?_)) ?_
  refine any_one (listed' := [true, true, true, true, true, true, false, false].toArray) 5 (by kernel_rfl) rfl rfl ?_
  refine lst_fn (X := Option Addr × Nat) (vs := [_]) (p := fun _ => True) (val := fun x => .slice x.1 (hopeL ags p).length x.2) (rs := fun x => [.row 3 1 x.1 (hopeL ags p).length x.2 (ints (hopeL ags p))]) rfl rfl F.ent101 (fun a w ha => (mlist_c (18446744073709551615 ^^^ n) hset.compl.1 w).mono (fun e w' h => by obtain ⟨A', c', h1, h2⟩ := h; rw [listN_flt hset.compl] at h1 h2; exact ⟨(A', c'), trivial, h1, h2⟩)) ?_
  rintro ⟨lA, lc⟩ -
  dsimp only [List.cons_append, List.nil_append]
  refine lst_nil ?_
  refine any_next (by repeat (first | exact List.Sublist.refl _ | exact List.nil_sublist _ | refine List.Sublist.cons_cons _ ?_ | refine List.Sublist.cons _ ?_)) ?_
  refine any_take (listed' := [true, true, true, true, true, true, true, false].toArray) 6 rfl rfl rfl (by kernel_rfl) (by kernel_rfl) (by kernel_rfl) (by repeat (first | exact List.Sublist.refl _ | exact List.nil_sublist _ | refine List.Sublist.cons_cons _ ?_ | refine List.Sublist.cons _ ?_)) (yld_assign rfl) rfl ?_
  refine any_one (listed' := [true, true, true, true, true, true, true, true].toArray) 7 (by kernel_rfl) rfl rfl ?_
  refine lst_store rfl rfl F.ti35 rfl ?_
  refine lst_nil ?_
  refine any_next (by repeat (first | exact List.Sublist.refl _ | exact List.nil_sublist _ | refine List.Sublist.cons_cons _ ?_ | refine List.Sublist.cons _ ?_)) ?_
  refine any_done rfl (by kernel_rfl) ?_
  refine ex_then ?_
  refine cod_ret ?_
  exact ex_ret_caught (fun a w ha => ⟨_, res_tc (fn := Tryd.f51) ha rfl rfl rfl F.one35, lA, lc, rfl, ha.grown (by repeat (first | exact List.Sublist.refl _ | exact List.nil_sublist _ | refine List.Sublist.cons_cons _ ?_ | refine List.Sublist.cons _ ?_))⟩)

end Go.Proofs.YtofkhehcnfiopaaDoor.N
namespace Go.Proofs.YtofkhehcnfiopaaDoor.N
open Go Go.RowKit Go.Proofs
/-- What Shortest says. -/
structure ShS (ags : List Ag) (p f : Nat) (W : List Nat) (E : Nat) : Prop where
  yes : E = 0 → Clr ags (usedAll ags.length) p f ∧ (∃ c, Wy ags (usedAll ags.length) p f c W.length) ∧ ∀ c k, Wy ags (usedAll ags.length) p f c k → W.length ≤ k
  no : E ≠ 0 → E = 11 ∧ ¬ Clr ags (usedAll ags.length) p f ∧ W = []
theorem ShS.zero {ags : List Ag} {p f E : Nat} {W : List Nat} (h : ShS ags p f W E) (hc : Clr ags (usedAll ags.length) p f) : E = 0 := by
  by_cases hE : E = 0
  · exact hE
  · exact absurd hc (h.no hE).2.1
theorem ShS.iff {ags : List Ag} {p f E : Nat} {W : List Nat} (h : ShS ags p f W E) : E = 0 ↔ Clr ags (usedAll ags.length) p f := ⟨fun hE => (h.yes hE).1, h.zero⟩
end Go.Proofs.YtofkhehcnfiopaaDoor.N
namespace Go.Proofs.YtofkhehcnfiopaaDoor.N
open Go Go.RowKit Go.Proofs
theorem hope_le (ags : List Ag) (p : Nat) : (hopeL ags p).length ≤ 64 := by
  have := fltP_len (fun f => ¬ Clr ags (usedAll ags.length) p f) (List.range 64)
  rw [List.length_range] at this
  exact this
theorem ChS.mono {ags ms : List Ag} {p q f c c' E' : Nat} {W W' : List Nat} (hu : ∀ x ∈ ags, x ∈ ms) (hp : ∀ f, nn f p = 0 → nn f q = 0) (h : ChS ags p f W c 0) (h' : ChS ms q f W' c' E') : E' = 0 ∧ c' ≤ c := by
  have hw := (h.yes rfl).1.1.mono (ags' := ms) (used' := usedAll ms.length) (fun x hx => us_all.2 (hu x (us_all.1 hx))) hp
  by_cases hE : E' = 0
  · have := (h'.yes hE).1.2 _ _ hw
    unfold lexle at this
    exact ⟨hE, by omega⟩
  · exact absurd hw ((h'.no hE).2.2.2 _ _)
end Go.Proofs.YtofkhehcnfiopaaDoor.N
namespace Go.Proofs.YtofkhehcnfiopaaDoor.N
open Go Go.RowKit Go.Proofs
theorem F.ent51 : Enters Tryd.prog 51 := enters_of Tryd.func51 rfl (by kernel_rfl)
end Go.Proofs.YtofkhehcnfiopaaDoor.N
namespace Go.Proofs.YtofkhehcnfiopaaDoor.N
open Go Go.RowKit Go.Proofs
/-- No number twice. -/
def Inj (n : Nat) (l : List Nat) : Prop := l.length = n ∧ (∀ (a x : Nat), l[a]? = some x → x < n) ∧ ∀ (a b x : Nat), l[a]? = some x → l[b]? = some x → a = b
theorem Inj.range (n : Nat) : Inj n (List.range n) := by
  refine ⟨List.length_range, fun a x h => ?_, fun a b x h h' => ?_⟩
  · have := List.mem_range.1 (List.mem_of_getElem? h)
    exact this
  · obtain ⟨h1, e1⟩ := List.getElem?_eq_some_iff.1 h
    obtain ⟨h2, e2⟩ := List.getElem?_eq_some_iff.1 h'
    simp at e1 e2
    omega
theorem Inj.swap {n : Nat} {l : List Nat} (h : Inj n l) {i j x y : Nat} (hx : l[i]? = some x) (hy : l[j]? = some y) : Inj n ((l.set i y).set j x) := by
  obtain ⟨h1, h2, h3⟩ := h
  obtain ⟨hi, _⟩ := List.getElem?_eq_some_iff.1 hx
  obtain ⟨hj, _⟩ := List.getElem?_eq_some_iff.1 hy
  have key : ∀ (a z : Nat), ((l.set i y).set j x)[a]? = some z → l[if a = j then i else if a = i then j else a]? = some z := by
    intro a z hz
    rw [List.getElem?_set, List.length_set] at hz
    by_cases e1 : j = a
    · subst e1
      rw [if_pos rfl, if_pos hj] at hz
      rw [if_pos rfl, hx]
      exact hz
    · rw [if_neg e1, List.getElem?_set] at hz
      rw [if_neg (fun e => e1 e.symm)]
      by_cases e2 : i = a
      · subst e2
        rw [if_pos rfl, if_pos hi] at hz
        rw [if_pos rfl, hy]
        exact hz
      · rw [if_neg e2] at hz
        rw [if_neg (fun e => e2 e.symm)]
        exact hz
  refine ⟨by simp [h1], fun a z hz => h2 _ z (key a z hz), fun a b z ha hb => ?_⟩
  have := h3 _ _ z (key a z ha) (key b z hb)
  clear key h2 h3 ha hb hx hy
  revert this
  repeat' split
  all_goals omega
/-! Agents under other numbers. -/
theorem set_mem {l : List Ag} {o : Nat} {x y : Ag} (h : y ∈ l.set o x) : y ∈ l ∨ y = x := List.mem_or_eq_of_mem_set h
def Same (al bs : List Ag) : Prop := ∀ x, x ∈ al ↔ x ∈ bs
theorem Same.sym {al bs : List Ag} (h : Same al bs) : Same bs al := fun x => (h x).symm
theorem Same.clr {al bs : List Ag} (h : Same al bs) {p f : Nat} : Clr al (usedAll al.length) p f ↔ Clr bs (usedAll bs.length) p f :=
  ⟨Clr.mono (fun x hx => us_all.2 ((h x).1 (us_all.1 hx))) (fun _ h => h), Clr.mono (fun x hx => us_all.2 ((h x).2 (us_all.1 hx))) (fun _ h => h)⟩
theorem Same.wy {al bs : List Ag} (h : Same al bs) {p f c k : Nat} (hw : Wy al (usedAll al.length) p f c k) : Wy bs (usedAll bs.length) p f c k := hw.mono (fun x hx => us_all.2 ((h x).1 (us_all.1 hx))) (fun _ h => h)
theorem Same.short {al bs : List Ag} (h : Same al bs) {p f E E' : Nat} {W W' : List Nat} (h1 : ShS al p f W E) (h2 : ShS bs p f W' E') : E = E' ∧ W.length = W'.length := by
  by_cases hc : Clr al (usedAll al.length) p f
  · have e1 := h1.zero hc
    have e2 := h2.zero (h.clr.1 hc)
    obtain ⟨_, ⟨c1, w1⟩, m1⟩ := h1.yes e1
    obtain ⟨_, ⟨c2, w2⟩, m2⟩ := h2.yes e2
    exact ⟨by omega, Nat.le_antisymm (m1 _ _ (h.sym.wy w2)) (m2 _ _ (h.wy w1))⟩
  · have e1 := h1.no (fun e => hc (h1.iff.1 e))
    have e2 := h2.no (fun e => hc (h.clr.2 (h2.iff.1 e)))
    rw [e1.1, e2.1, e1.2.2, e2.2.2]
    exact ⟨rfl, rfl⟩
theorem Same.found {al bs : List Ag} (h : Same al bs) {p f : Nat} {o o' : Option Wk} (h1 : FoundO al (usedAll al.length) 1 (-1) (f, 0, 0) (fun t => decide (nn t.1 p = 0)) o) (h2 : FoundO bs (usedAll bs.length) 1 (-1) (f, 0, 0) (fun t => decide (nn t.1 p = 0)) o') : o.isSome = o'.isSome ∧ (wayO o).how.length = (wayO o').how.length := by
  obtain ⟨a1, a2, a3⟩ := short_spec h1
  obtain ⟨b1, b2, b3⟩ := short_spec h2
  have hi : o.isSome = true ↔ o'.isSome = true := a1.trans (h.clr.trans b1.symm)
  cases o with
  | none =>
    cases o' with
    | none => exact ⟨rfl, rfl⟩
    | some k => exact absurd (hi.2 rfl) (by simp)
  | some k =>
    cases o' with
    | none => exact absurd (hi.1 rfl) (by simp)
    | some k' =>
      refine ⟨rfl, ?_⟩
      obtain ⟨c1, w1⟩ := a2.resolve_right (by simp)
      obtain ⟨c2, w2⟩ := b2.resolve_right (by simp)
      exact Nat.le_antisymm ((a3.resolve_left (by simp)) _ _ (h.sym.wy w2)) ((b3.resolve_left (by simp)) _ _ (h.wy w1))
/-- What is known while agents get other numbers. -/
structure Ren (al os : List Ag) (l : List Nat) (i : Nat) : Prop where
  len : os.length = al.length
  sub : ∀ x ∈ os, x ∈ al
  done : ∀ (j q : Nat), j < i → l[j]? = some q → os[q]? = al[j]?
theorem Ren.zero (al : List Ag) (l : List Nat) : Ren al al l 0 := ⟨rfl, fun _ h => h, fun _ _ h => absurd h (by omega)⟩
theorem Ren.step {al os : List Ag} {l : List Nat} {i q : Nat} {x : Ag} (h : Ren al os l i) (hl : Inj al.length l) (hq : l[i]? = some q) (hx : al[i]? = some x) : Ren al (os.set q x) l (i + 1) := by
  have hql := hl.2.1 _ _ hq
  refine ⟨by rw [List.length_set]; exact h.len, fun y hy => ?_, fun j r hj hr => ?_⟩
  · rcases set_mem hy with h1 | h1
    · exact h.sub y h1
    · rw [h1]; exact List.mem_of_getElem? hx
  · rw [List.getElem?_set]
    by_cases e : q = r
    · subst e
      obtain rfl := hl.2.2 _ _ _ hq hr
      rw [if_pos rfl, if_pos (by rw [h.len]; exact hql), hx]
    · rw [if_neg e]
      have : j ≠ i := fun e' => by subst e'; rw [hq] at hr; exact e (Option.some.inj hr)
      exact h.done j r (by omega) hr
theorem Ren.same {al os : List Ag} {l : List Nat} (h : Ren al os l al.length) (hl : Inj al.length l) : Same al os := by
  intro x
  constructor
  · intro hx
    obtain ⟨j, hj, rfl⟩ := List.getElem_of_mem hx
    have hjl : j < l.length := by rw [hl.1]; exact hj
    have := h.done j _ hj (List.getElem?_eq_getElem hjl)
    rw [List.getElem?_eq_getElem hj] at this
    exact List.mem_of_getElem? this
  · exact h.sub x
end Go.Proofs.YtofkhehcnfiopaaDoor.N
namespace Go.Proofs.YtofkhehcnfiopaaDoor.N
open Go Go.RowKit Go.Proofs
/-- What is said first of agents and two numbers. -/
def askedR (l : List RA) (m p : Int) : Nat := if ¬ checkR l = 0 then checkR l else if (inB m 0 63 && inB p 0 63) = true then 0 else 1
end Go.Proofs.YtofkhehcnfiopaaDoor.N
namespace Go.Proofs.YtofkhehcnfiopaaDoor.N
open Go Go.RowKit Go.Proofs
/-- A slice that reads as a list wherever some things are held. -/
def Rds {α : Type} (cells : α → List Value) (size : Nat) (C : Ctx) (T : List Res) (A : Option Addr) (l : List α) : Prop :=
  ∀ (C' : Ctx) (fr : List (Nat × Value)) (hp : List Res) (a : Act) (w : World), At C' fr hp a w → C'.P = C.P → C'.B = C.B → C'.w0 = C.w0 → (∀ r ∈ T, r ∈ hp) → RdL cells size w A l
theorem Rds.row {α : Type} {cells : α → List Value} {size : Nat} {C : Ctx} {T : List Res} {A : Option Addr} {l : List α} {e c : Nat} (hs : ∀ x, (cells x).length = size) (h : Res.row e size A l.length c (l.flatMap cells) ∈ T) : Rds cells size C T A l :=
  fun _ _ _ _ _ ha _ _ _ hm => row_reads ha hs (hm _ h) rfl
theorem Rds.blk {α : Type} {cells : α → List Value} {size : Nat} {C : Ctx} {T : List Res} {b ct : Nat} {l : List α} (hs : ∀ x, (cells x).length = size) (h : Res.blk b (.cells (l.flatMap cells).toArray ct (0, 0)) ∈ T) : Rds cells size C T (some ⟨b, 0, none⟩) l := by
  intro C' fr hp a w ha _ _ _ hm _
  refine ⟨b, 0, rfl, (Res.lt (ha.own _ (hm _ h)) b rfl).2, fun k x hk j u hu => ?_⟩
  rw [Nat.zero_add]
  exact cell_of_blk (ha.mem_blk (hm _ h)) (flatMap_get hs l k x hk j u hu)
theorem Rds.old {α : Type} {cells : α → List Value} {size : Nat} {C : Ctx} {T : List Res} {A : Option Addr} {l : List α} (h : RdL cells size C.w0 A l) (hB : C.w0.heap.size = C.B) : Rds cells size C T A l := by
  intro C' fr hp a w ha _ h2 h3 _ hl
  obtain ⟨b, o, e1, e2, e3⟩ := h hl
  have hbB : b < C'.B := by rw [h2, ← hB]; exact e2
  refine ⟨b, o, e1, ?_, fun k x hk j u hu => ?_⟩
  · have h4 := ha.below.size
    rw [h3] at h4
    omega
  · exact ha.old (by rw [h3]; exact e3 k x hk j u hu) hbB
/-- What becomes of a melt along a way; else the error. -/
def alongE (ags : List Ag) : Nat → List Int → Except Nat (List Nat)
  | _, [] => .ok []
  | f, n :: l => if inB n 0 ((ags.length : Int) - 1) = false then .error 3 else if mayN (ags.getD n.toNat default) f = false then .error 12 else (alongE ags (putN (ags.getD n.toNat default) f) l).map (putN (ags.getD n.toNat default) f :: ·)
/-- The outs so far, and what is still to come. -/
def goesOn (outs : List Nat) (r : Except Nat (List Nat)) : Except Nat (List Nat) := r.map (outs ++ ·)
theorem goesOn_nil (r : Except Nat (List Nat)) : goesOn [] r = r := by cases r <;> rfl
theorem alongE_step {ags : List Ag} {f k : Nat} {n : Int} {way : List Int} (hn : way[k]? = some n) : alongE ags f (way.drop k) = if inB n 0 ((ags.length : Int) - 1) = false then .error 3 else if mayN (ags.getD n.toNat default) f = false then .error 12 else (alongE ags (putN (ags.getD n.toNat default) f) (way.drop (k + 1))).map (putN (ags.getD n.toNat default) f :: ·) := by
  obtain ⟨hk, he⟩ := List.getElem?_eq_some_iff.1 hn
  rw [List.drop_eq_getElem_cons hk, he]
  rfl
theorem goesOn_step (outs : List Nat) (x : Nat) (r : Except Nat (List Nat)) : goesOn outs (r.map (x :: ·)) = goesOn (outs ++ [x]) r := by
  cases r with
  | error c => rfl
  | ok l =>
    show Except.ok (outs ++ (x :: l)) = Except.ok ((outs ++ [x]) ++ l)
    rw [List.append_assoc]; rfl
end Go.Proofs.YtofkhehcnfiopaaDoor.N
namespace Go.Proofs.YtofkhehcnfiopaaDoor.N
open Go Go.RowKit Go.Proofs
/-- What Put says. -/
def PutS (ags : List Ag) (f : Nat) (way : List Int) (outs : List Nat) (E : Nat) : Prop :=
  (way.length ≤ 20 ∧ alongE ags f way = .ok outs ∧ E = 0 ∧ outs.length = way.length) ∨ (way.length ≤ 20 ∧ alongE ags f way = .error E ∧ (E = 3 ∨ E = 12) ∧ outs = []) ∨ (20 < way.length ∧ E = 6 ∧ outs = [])
theorem PutS.len {ags : List Ag} {f E : Nat} {way : List Int} {outs : List Nat} (h : PutS ags f way outs E) : outs.length ≤ 20 := by
  rcases h with ⟨h1, _, _, h4⟩ | ⟨_, _, _, rfl⟩ | ⟨_, _, rfl⟩
  · omega
  · simp
  · simp
end Go.Proofs.YtofkhehcnfiopaaDoor.N
namespace Go.Proofs.YtofkhehcnfiopaaDoor.N
open Go Go.RowKit Go.Proofs
def castL (l : List Nat) : List Int := l.map fun (n : Nat) => (n : Int)
def lastN (m : Nat) (l : List Nat) : Nat := l.getLast?.getD m
theorem lastN_snoc (m : Nat) (l : List Nat) (x : Nat) : lastN m (l ++ [x]) = x := by
  unfold lastN
  simp
theorem castL_len (l : List Nat) : (castL l).length = l.length := List.length_map ..
theorem castL_get {l : List Nat} {i x : Nat} (h : l[i]? = some x) : (castL l)[i]? = some (x : Int) := by
  unfold castL
  rw [List.getElem?_map, h]; rfl
/-- The law's own way through the list. -/
structure Wlk (ags : List Ag) (m : Nat) (W : List Nat) (i now due : Nat) : Prop where
  lt : now < 64
  go : due = 0 → ∃ pre, pre.length = i ∧ lastN m pre = now ∧ alongE ags m (castL W) = goesOn pre (alongE ags now ((castL W).drop i))
  bad : due ≠ 0 → (due = 3 ∨ due = 12) ∧ alongE ags m (castL W) = .error due
theorem Wlk.zero {ags : List Ag} {m : Nat} {W : List Nat} (hm : m < 64) : Wlk ags m W 0 m 0 := ⟨hm, fun _ => ⟨[], rfl, rfl, by rw [goesOn_nil]; rfl⟩, fun h => absurd rfl h⟩
theorem Wlk.next {ags : List Ag} {m now i x : Nat} {W : List Nat} (hok : Oks ags) (h : Wlk ags m W i now 0) (hx : W[i]? = some x) (hb : x < ags.length) (hm : mayN (ags.getD x default) now = true) : Wlk ags m W (i + 1) (putN (ags.getD x default) now) 0 := by
  obtain ⟨pre, h1, h2, h3⟩ := h.go rfl
  rw [alongE_step (castL_get hx), if_neg (by rw [Bool.not_eq_false, inB_true]; omega), Int.toNat_natCast, if_neg (by rw [hm]; simp), goesOn_step] at h3
  exact ⟨putN_lt (agd_ok hok hb) h.lt, fun _ => ⟨_, by rw [List.length_append, h1]; rfl, lastN_snoc _ _ _, h3⟩, fun e => absurd rfl e⟩
/-- What the law finds agrees with Put. -/
theorem Wlk.ends {ags : List Ag} {m now i due E : Nat} {W outs : List Nat} (h : Wlk ags m W i now due) (hput : PutS ags m (castL W) outs E) (hi : i ≤ W.length) (hend : (decide ((i : Int) < (W.length : Int)) && decide ((due : Int) = 0)) = false) (h20 : W.length ≤ 20) :
    E = due ∧ (due ≠ 0 → outs = []) ∧ (due = 0 → lastN m outs = now ∧ outs.length = W.length ∧ alongE ags m (castL W) = .ok outs) := by
  have hwl := castL_len W
  by_cases hd : due = 0
  · subst hd
    obtain ⟨pre, h1, h2, h3⟩ := h.go rfl
    simp at hend
    obtain rfl : i = W.length := by omega
    rw [show (castL W).drop W.length = [] by rw [← hwl, List.drop_length]] at h3
    have h4 : alongE ags m (castL W) = .ok pre := by rw [h3]; show Except.ok (pre ++ []) = _; rw [List.append_nil]
    rcases hput with ⟨_, g1, g2, g3⟩ | ⟨_, g1, _⟩ | ⟨g1, _⟩
    · rw [h4] at g1
      obtain rfl := Except.ok.inj g1
      exact ⟨g2, fun e => absurd rfl e, fun _ => ⟨h2, by omega, h4⟩⟩
    · rw [h4] at g1; cases g1
    · omega
  · obtain ⟨_, h2⟩ := h.bad hd
    rcases hput with ⟨_, g1, _⟩ | ⟨_, g1, _, g3⟩ | ⟨g1, _⟩
    · rw [h2] at g1; cases g1
    · rw [h2] at g1
      exact ⟨(Except.error.inj g1).symm, fun _ => g3, fun e => absurd e hd⟩
    · omega
theorem PutS.ok {ags : List Ag} {f E : Nat} {way : List Int} {outs o : List Nat} (h : PutS ags f way outs E) (hl : way.length ≤ 20) (ho : alongE ags f way = .ok o) : E = 0 ∧ outs = o := by
  rcases h with ⟨_, g1, g2, _⟩ | ⟨_, g1, _⟩ | ⟨g1, _⟩
  · rw [ho] at g1
    exact ⟨g2, (Except.ok.inj g1).symm⟩
  · rw [ho] at g1; cases g1
  · omega
theorem PutS.long {ags : List Ag} {f E : Nat} {way : List Int} {outs : List Nat} (h : PutS ags f way outs E) (hl : 20 < way.length) : E = 6 ∧ outs = [] := by
  rcases h with ⟨g, _⟩ | ⟨g, _⟩ | ⟨_, g⟩
  · omega
  · omega
  · exact g
end Go.Proofs.YtofkhehcnfiopaaDoor.N
namespace Go.Proofs.YtofkhehcnfiopaaDoor.N
open Go Go.RowKit Go.Proofs
/-- The agents that some numbers are. -/
def agsOf (l : List RA) : List Ag := l.map RA.ag
end Go.Proofs.YtofkhehcnfiopaaDoor.N
namespace Go.Proofs.YtofkhehcnfiopaaDoor.N
open Go Go.RowKit Go.Proofs
/-! What is asked of whatever agents: the program and the reference answer alike. -/
theorem grew_nil {w w' : World} (h : Grew w w' []) : Grew w w' [.row 3 1 none ([] : List Nat).length 0 (ints [])] :=
  ⟨h.1, fun r hr => by simp at hr; subst hr; exact ⟨rfl, .inl ⟨rfl, rfl⟩⟩, List.nodup_nil⟩
def Says (w : World) (L : List Nat) (E : Nat) (e : Ending) (w' : World) : Prop := ∃ (A' : Option Addr) (c' : Nat), e = .returned (.tuple #[.slice A' L.length c', .int .i64 (E : Int)]) ∧ Grew w w' [.row 3 1 A' L.length c' (ints L)]
theorem Says.nil {w w' : World} {E : Nat} {e : Ending} (h : e = .returned (.tuple #[.slice none 0 0, .int .i64 (E : Int)]) ∧ Grew w w' []) : Says w [] E e w' := ⟨none, 0, h.1, grew_nil h.2⟩
/-- What Put answers. -/
def putR (l : List RA) (m : Int) (way : List Int) : List Nat × Nat :=
  if askedR l m 0 = 0 then (if 20 < way.length then ([], 6) else match alongE (agsOf l) m.toNat way with | .ok o => (o, 0) | .error c => ([], c)) else ([], askedR l m 0)
theorem PutS.is {l : List RA} {f E : Nat} {way : List Int} {outs : List Nat} (h0 : askedR l (f : Int) 0 = 0) (h : PutS (agsOf l) f way outs E) : putR l (f : Int) way = (outs, E) := by
  unfold putR
  rw [if_pos h0, Int.toNat_natCast]
  rcases h with ⟨h1, h2, h3, _⟩ | ⟨h1, h2, _, h4⟩ | ⟨h1, h2, h3⟩
  · rw [if_neg (by omega), h2, h3]
  · rw [if_neg (by omega), h2, h4]
  · rw [if_pos h1, h2, h3]
end Go.Proofs.YtofkhehcnfiopaaDoor.N
namespace Go.Proofs.YtofkhehcnfiopaaDoor.N
open Go Go.RowKit Go.Proofs
/-- A number of 64 bits. -/
def W64 (n : Int) : Prop := -9223372036854775808 ≤ n ∧ n ≤ 9223372036854775807
structure RA.wf (a : RA) : Prop where
  needs : W64 a.needs
  no : W64 a.no
  takes : W64 a.takes
  leaves : W64 a.leaves
  cost : W64 a.cost
end Go.Proofs.YtofkhehcnfiopaaDoor.N
namespace Go.Proofs.YtofkhehcnfiopaaDoor.N
open Go Go.RowKit Go.Proofs
theorem Rds.ag {C : Ctx} {T : List Res} {A : Option Addr} {l : List RA} (hc : checkR l = 0) (h : Rds RA.cells 5 C T A l) : Rds Ag.cells 5 C T A (agsOf l) :=
  fun C' fr hp a w ha h1 h2 h3 hm => (h C' fr hp a w ha h1 h2 h3 hm).ag hc
theorem Rds.sub {α : Type} {cells : α → List Value} {size : Nat} {C : Ctx} {T T' : List Res} {A : Option Addr} {l : List α} (h : Rds cells size C T A l) (hs : ∀ r ∈ T, r ∈ T') : Rds cells size C T' A l :=
  fun C' fr hp a w ha h1 h2 h3 hm => h C' fr hp a w ha h1 h2 h3 (fun r hr => hm r (hs r hr))
end Go.Proofs.YtofkhehcnfiopaaDoor.N
namespace Go.Proofs.YtofkhehcnfiopaaDoor.N
open Go Go.RowKit Go.Proofs
section
variable {C : Ctx} {fr : List (Nat × Value)} {hp : List Res} {a : Act} {w : World} {ops : Array Oper} {Q : Exit → Act → World → Prop} {rest : List Oper}
  {d : Nat} {ty : TypeId} {pos : String} {after : Array Edge}
theorem ints_zeros : ∀ n : Nat, ints (List.replicate n 0) = List.replicate n (.int .i64 0)
  | 0 => rfl
  | n + 1 => by rw [List.replicate_succ, List.replicate_succ, ← ints_zeros n]; rfl
theorem madeCells_ints (n : Nat) : madeCells (Value.int .i64 0).cells n = (ints (List.replicate n 0)).toArray := by
  rw [ints_zeros]
  unfold madeCells
  apply Array.toList_inj.1
  apply List.ext_getElem?
  intro i
  by_cases hi : i < n
  · simp [Value.cells, hi, Nat.mod_one]
  · simp [Value.cells, hi]
end
end Go.Proofs.YtofkhehcnfiopaaDoor.N
namespace Go.Proofs.YtofkhehcnfiopaaDoor.N
open Go Go.RowKit Go.Proofs
/-! How many agents the shortest ways have: what rounds that go on in place come to. -/
def farN : Nat := 1048576
variable {ags : List Ag} {used p : Nat}
structure RI (ags : List Ag) (used p r m i : Nat) (L : List Nat) : Prop where
  len : L.length = 64
  le : ∀ f, f < 64 → L.getD f 0 ≤ farN
  snd : ∀ f, f < 64 → L.getD f 0 < farN → ∃ c, Wy ags used p f c (L.getD f 0)
  cmp : ∀ f, f < 64 → ∀ c k, Wy ags used p f c k → (k ≤ r ∨ (k ≤ r + 1 ∧ f < m)) → L.getD f 0 ≤ k
  cur : ∀ j, j < i → j ∈ canTo ags used m ags.length → ∀ c k, Wy ags used p (putN (ags.getD j default) m) c k → k ≤ r → L.getD m 0 ≤ k + 1
/-- What the rounds begin with. -/
def initN (p k : Nat) : List Nat := (List.range 64).map fun f => if f < k then (if nn f p = 0 then 0 else farN) else 0
theorem initN_len (p k : Nat) : (initN p k).length = 64 := by simp [initN]
theorem getN_set {L : List Nat} {f g x : Nat} (hf : f < L.length) : (L.set f x).getD g 0 = if f = g then x else L.getD g 0 := by
  rw [List.getD_eq_getElem?_getD, List.getElem?_set, List.getD_eq_getElem?_getD]
  by_cases e : f = g
  · subst e
    rw [if_pos rfl, if_pos rfl, if_pos hf]; rfl
  · rw [if_neg e, if_neg e]
theorem initN_getD {p f : Nat} (hf : f < 64) : (initN p 64).getD f 0 = if nn f p = 0 then 0 else farN := by
  simp [initN, List.getD_eq_getElem?_getD, hf]
theorem RI.start : RI ags used p 0 0 0 (initN p 64) where
  len := initN_len p 64
  le f hf := by rw [initN_getD hf]; split <;> simp [farN]
  snd f hf h := by
    rw [initN_getD hf] at h ⊢
    by_cases h0 : nn f p = 0
    · rw [if_pos h0]; exact ⟨0, .done h0⟩
    · rw [if_neg h0] at h; exact absurd h (Nat.lt_irrefl _)
  cmp f hf c k h hk := by
    have hk0 : k = 0 := by omega
    subst hk0
    rw [initN_getD hf]
    cases h with
    | done h0 => rw [if_pos h0]; exact Nat.le_refl _
  cur j hj := absurd hj (Nat.not_lt_zero _)
theorem RI.skip {r m i : Nat} {L : List Nat} (h : RI ags used p r m i L) (hi : i ∉ canTo ags used m ags.length) : RI ags used p r m (i + 1) L :=
  { h with
    cur := fun j hj hc => by
      rcases Nat.lt_succ_iff_lt_or_eq.1 hj with h1 | rfl
      · exact h.cur j h1 hc
      · exact absurd hc hi }
theorem RI.put {r m i : Nat} {L : List Nat} (hok : Oks ags) (h : RI ags used p r m i L) (hm : m < 64) (hi : i ∈ canTo ags used m ags.length) :
    RI ags used p r m (i + 1) (L.set m (min (L.getD m 0) (1 + L.getD (putN (ags.getD i default) m) 0))) := by
  have hil := (can_mem.1 hi).1
  have hxo : (ags.getD i default).ok := hok.2 _ (by rw [List.getD_eq_getElem?_getD, List.getElem?_eq_getElem hil]; exact List.getElem_mem hil)
  have hg : putN (ags.getD i default) m < 64 := putN_lt hxo hm
  have hml : m < L.length := by rw [h.len]; exact hm
  have dec : ∀ f, (L.set m (min (L.getD m 0) (1 + L.getD (putN (ags.getD i default) m) 0))).getD f 0 ≤ L.getD f 0 := fun f => by
    rw [getN_set hml]
    by_cases e : m = f
    · subst e; rw [if_pos rfl]; exact Nat.min_le_left _ _
    · rw [if_neg e]; exact Nat.le_refl _
  refine ⟨by rw [List.length_set]; exact h.len, fun f hf => Nat.le_trans (dec f) (h.le f hf), fun f hf hlt => ?_, fun f hf c k hw hk => Nat.le_trans (dec f) (h.cmp f hf c k hw hk), fun j hj hc c k hw hk => ?_⟩
  · rw [getN_set hml] at hlt ⊢
    by_cases e : m = f
    · subst e
      rw [if_pos rfl] at hlt ⊢
      rcases Nat.le_total (L.getD m 0) (1 + L.getD (putN (ags.getD i default) m) 0) with h1 | h1
      · rw [Nat.min_eq_left h1] at hlt ⊢
        exact h.snd m hm hlt
      · rw [Nat.min_eq_right h1] at hlt ⊢
        obtain ⟨c, hc⟩ := h.snd _ hg (by omega)
        rw [Nat.add_comm]
        exact ⟨_, .step hi hc⟩
    · rw [if_neg e] at hlt ⊢
      exact h.snd f hf hlt
  · rcases Nat.lt_succ_iff_lt_or_eq.1 hj with h1 | rfl
    · exact Nat.le_trans (dec m) (h.cur j h1 hc c k hw hk)
    · rw [getN_set hml, if_pos rfl]
      have := h.cmp _ hg c k hw (.inl hk)
      omega
theorem RI.next {r m : Nat} {L : List Nat} (h : RI ags used p r m ags.length L) (hm : m < 64) : RI ags used p r (m + 1) 0 L :=
  { h with
    cmp := fun f hf c k hw hk => by
      by_cases h0 : k ≤ r ∨ (k ≤ r + 1 ∧ f < m)
      · exact h.cmp f hf c k hw h0
      · have hfm : f = m := by omega
        subst hfm
        cases hw with
        | done h1 => exact h.cmp f hf 0 0 (.done h1) (.inl (Nat.zero_le _))
        | step hi hw' => exact h.cur _ (can_mem.1 hi).1 hi _ _ hw' (by omega)
    cur := fun j hj => absurd hj (Nat.not_lt_zero _) }
theorem RI.round {r : Nat} {L : List Nat} (h : RI ags used p r 64 0 L) : RI ags used p (r + 1) 0 0 L :=
  { h with
    cmp := fun f hf c k hw hk => h.cmp f hf c k hw (by omega)
    cur := fun j hj => absurd hj (Nat.not_lt_zero _) }
/-- What the reference's numbers say of each melt. -/
structure Dst (ags : List Ag) (used p : Nat) (L : List Nat) : Prop where
  len : L.length = 64
  far : ∀ f, f < 64 → (L.getD f 0 = farN ↔ ¬ Clr ags used p f)
  way : ∀ f, f < 64 → L.getD f 0 ≠ farN → L.getD f 0 ≤ 63 ∧ (∃ c, Wy ags used p f c (L.getD f 0)) ∧ ∀ c k, Wy ags used p f c k → L.getD f 0 ≤ k
theorem RI.dst {L : List Nat} (hok : Oks ags) (h : RI ags used p 64 0 0 L) : Dst ags used p L := by
  have short : ∀ f, f < 64 → Clr ags used p f → L.getD f 0 ≤ 63 ∧ ∀ c k, Wy ags used p f c k → L.getD f 0 ≤ k := fun f hf ⟨c, k, hw⟩ => by
    obtain ⟨c', k', ho⟩ := Opt.ex hw
    have h63 := Opt.short hok hf ho
    have h1 := h.cmp f hf _ _ ho.1 (.inl (by omega))
    refine ⟨by omega, fun c2 k2 hw2 => ?_⟩
    by_cases h2 : k2 ≤ 64
    · exact h.cmp f hf c2 k2 hw2 (.inl h2)
    · omega
  have far_ : ∀ f, f < 64 → (L.getD f 0 = farN ↔ ¬ Clr ags used p f) := fun f hf => by
    constructor
    · intro e hc
      have := (short f hf hc).1
      rw [e] at this
      simp [farN] at this
    · intro hc
      have h1 := h.le f hf
      by_cases e : L.getD f 0 = farN
      · exact e
      · obtain ⟨c, hw⟩ := h.snd f hf (by omega)
        exact absurd ⟨c, _, hw⟩ hc
  refine ⟨h.len, far_, fun f hf hne => ?_⟩
  obtain ⟨c, hw⟩ := h.snd f hf (by have := h.le f hf; omega)
  have := short f hf ⟨c, _, hw⟩
  exact ⟨this.1, ⟨c, hw⟩, this.2⟩
theorem RI.same {r m i f : Nat} {L : List Nat} (h : RI ags used p r m i L) (hf : f < 64) : L.set f (min (L.getD f 0) farN) = L := by
  rw [Nat.min_eq_left (h.le f hf)]
  apply List.ext_getElem?
  intro g
  rw [List.getElem?_set]
  by_cases e : f = g
  · subst e
    have : f < L.length := by rw [h.len]; exact hf
    rw [if_pos rfl, if_pos this, List.getD_eq_getElem?_getD, List.getElem?_eq_getElem this]; rfl
  · rw [if_neg e]
end Go.Proofs.YtofkhehcnfiopaaDoor.N
namespace Go.Proofs.YtofkhehcnfiopaaDoor.N
open Go Go.RowKit Go.Proofs
/-! The first list, the shorter ones first, that does something. -/
def FS (n : Nat) (P : List Nat → Prop) (K : Nat) : Option (List Nat) → Prop
  | some v => P v ∧ Wd n v ∧ v.length ≤ K ∧ ∀ u, Wd n u → u.length ≤ K → P u → code n v ≤ code n u
  | none => ∀ u, Wd n u → u.length ≤ K → ¬ P u
theorem FS.unique {n K : Nat} {P : List Nat → Prop} {r s : Option (List Nat)} (h : FS n P K r) (h' : FS n P K s) : r = s := by
  cases r with
  | none =>
    cases s with
    | none => rfl
    | some v => exact absurd h'.1 (h v h'.2.1 h'.2.2.1)
  | some v =>
    cases s with
    | none => exact absurd h.1 (h' v h.2.1 h.2.2.1)
    | some w =>
      have h1 := h.2.2.2 w h'.2.1 h'.2.2.1 h'.1
      have h2 := h'.2.2.2 v h.2.1 h.2.2.1 h.1
      exact congrArg some (code_inj n _ v w rfl h.2.1 h'.2.1 (by omega))
/-- What a walk through all lists has seen. -/
structure SeenS (n : Nat) (P : List Nat → Prop) (k i : Nat) : Prop where
  less : ∀ u, Wd n u → u.length < k → ¬ P u
  now : ∀ j u, j < i → (strs n k)[j]? = some u → ¬ P u
theorem SeenS.start {n : Nat} {P : List Nat → Prop} : SeenS n P 0 0 := ⟨fun _ _ h => absurd h (Nat.not_lt_zero _), fun _ _ h => absurd h (Nat.not_lt_zero _)⟩
theorem SeenS.next {n k i : Nat} {P : List Nat → Prop} (h : SeenS n P k i) {v : List Nat} (hv : (strs n k)[i]? = some v) (hp : ¬ P v) : SeenS n P k (i + 1) :=
  ⟨h.less, fun j u hj hu => by
    rcases Nat.lt_succ_iff_lt_or_eq.1 hj with h1 | rfl
    · exact h.now j u h1 hu
    · rw [hv] at hu
      cases hu
      exact hp⟩
theorem SeenS.round {n k i : Nat} {P : List Nat → Prop} (h : SeenS n P k i) (hi : (strs n k).length ≤ i) : SeenS n P (k + 1) 0 :=
  ⟨fun u hu hl => by
    rcases Nat.lt_succ_iff_lt_or_eq.1 hl with h1 | h1
    · exact h.less u hu h1
    · obtain ⟨j, hj⟩ := List.getElem?_of_mem (strs_all hu h1)
      exact h.now j u (Nat.lt_of_lt_of_le (List.getElem?_eq_some_iff.1 hj).1 hi) hj, fun _ _ h => absurd h (Nat.not_lt_zero _)⟩
theorem SeenS.none_ {n K : Nat} {P : List Nat → Prop} (h : SeenS n P (K + 1) 0) : FS n P K none := fun u hu hl => h.less u hu (by omega)
theorem SeenS.found {n k i K : Nat} {P : List Nat → Prop} (h : SeenS n P k i) (hk : k ≤ K) {v : List Nat} (hv : (strs n k)[i]? = some v) (hp : P v) : FS n P K (some v) := by
  obtain ⟨hvl, hvw⟩ := strs_mem (List.mem_of_getElem? hv)
  refine ⟨hp, hvw, by omega, fun u hu _ hpu => ?_⟩
  rcases Nat.lt_trichotomy u.length k with hl | hl | hl
  · exact absurd hpu (h.less u hu hl)
  · obtain ⟨j, hj⟩ := List.getElem?_of_mem (strs_all hu hl)
    rcases Nat.lt_or_ge j i with h2 | h2
    · exact absurd hpu (h.now j u h2 hj)
    · exact strs_le_code hv hj h2
  · exact Nat.le_of_lt (code_lt_of_len n u.length u v rfl (by omega) hvw)
/-! Teams. -/
end Go.Proofs.YtofkhehcnfiopaaDoor.N
namespace Go.Proofs.YtofkhehcnfiopaaDoor.N
open Go Go.RowKit Go.Proofs
theorem Upd.same {r r' : Res} {l l' : List Res} (h : Upd r r' l l') (e : r' = r) : l' = l := by
  induction h with
  | head l => rw [e]
  | tail x _ ih => rw [ih]
section
variable {C : Ctx} {fr : List (Nat × Value)} {hp : List Res} {ops : Array Oper} {Q : Exit → Act → World → Prop} {rest : List Oper} {d : Nat} {ty : TypeId} {pos : String} {after : Array Edge}
end
/-! Lists with the first agent ahead: the same lists. -/
end Go.Proofs.YtofkhehcnfiopaaDoor.N
namespace Go.Proofs.YtofkhehcnfiopaaDoor.N
open Go Go.RowKit Go.Proofs
/-! The melt that takes longest. -/
def bestL (L : List Nat) : Nat → Nat × Nat
  | 0 => (0, 0)
  | k + 1 => if L.getD k 0 < farN ∧ (bestL L k).2 < L.getD k 0 then (k, L.getD k 0) else bestL L k
theorem Dst.unique {ags : List Ag} {used p : Nat} {L M : List Nat} (h : Dst ags used p L) (h' : Dst ags used p M) : L = M := by
  apply List.ext_getElem?
  intro f
  by_cases hf : f < 64
  · have e : L.getD f 0 = M.getD f 0 := by
      by_cases hL : L.getD f 0 = farN
      · rw [hL, (h'.far f hf).2 ((h.far f hf).1 hL)]
      · have hM : M.getD f 0 ≠ farN := fun e => hL ((h.far f hf).2 ((h'.far f hf).1 e))
        obtain ⟨_, ⟨c, hw⟩, hm⟩ := h.way f hf hL
        obtain ⟨_, ⟨c', hw'⟩, hm'⟩ := h'.way f hf hM
        exact Nat.le_antisymm (hm _ _ hw') (hm' _ _ hw)
    rw [List.getElem?_eq_getElem (by rw [h.len]; exact hf), List.getElem?_eq_getElem (by rw [h'.len]; exact hf)]
    rw [List.getD_eq_getElem?_getD, List.getD_eq_getElem?_getD, List.getElem?_eq_getElem (by rw [h.len]; exact hf), List.getElem?_eq_getElem (by rw [h'.len]; exact hf)] at e
    exact congrArg some e
  · rw [List.getElem?_eq_none (by rw [h.len]; omega), List.getElem?_eq_none (by rw [h'.len]; omega)]
theorem Dst.zero {ags : List Ag} {used p : Nat} {L : List Nat} (h : Dst ags used p L) : L.getD 0 0 = 0 := by
  have h0 : nn 0 p = 0 := by unfold nn; simp
  have hc : Clr ags used p 0 := ⟨0, 0, .done h0⟩
  have hne : L.getD 0 0 ≠ farN := fun e => (h.far 0 (by omega)).1 e hc
  have := (h.way 0 (by omega) hne).2.2 0 0 (.done h0)
  omega
end Go.Proofs.YtofkhehcnfiopaaDoor.N
namespace Go.Proofs.YtofkhehcnfiopaaDoor.N
open Go Go.RowKit Go.Proofs
/-! What is asked of whatever agents and faults. -/
/-- What Farthest says. -/
def FarS (l : List RA) (p : Int) (n m E : Nat) : Prop :=
  (askedR l 0 p = 0 ∧ E = 0 ∧ ∃ L, Dst (agsOf l) (usedAll (agsOf l).length) p.toNat L ∧ n = (bestL L 64).1 ∧ m = (bestL L 64).2) ∨ (askedR l 0 p ≠ 0 ∧ E = askedR l 0 p ∧ n = 0 ∧ m = 0)
theorem FarS.unique {l : List RA} {p : Int} {n m E n' m' E' : Nat} (h : FarS l p n m E) (h' : FarS l p n' m' E') : n = n' ∧ m = m' ∧ E = E' := by
  rcases h with ⟨h0, rfl, L, hL, rfl, rfl⟩ | ⟨h0, rfl, rfl, rfl⟩
  · rcases h' with ⟨_, rfl, M, hM, rfl, rfl⟩ | ⟨h1, _⟩
    · obtain rfl := hL.unique hM
      exact ⟨rfl, rfl, rfl⟩
    · exact absurd h0 h1
  · rcases h' with ⟨h1, _⟩ | ⟨_, rfl, rfl, rfl⟩
    · exact absurd h1 h0
    · exact ⟨rfl, rfl, rfl⟩
end Go.Proofs.YtofkhehcnfiopaaDoor.N
namespace Go.Proofs.YtofkhehcnfiopaaDoor.N
open Go Go.RowKit Go.Proofs
/-! All ascending lists of k numbers, in their order. -/
def chsL (n : Nat) : Nat → Nat → List (List Nat)
  | 0, _ => [[]]
  | k + 1, f => (List.range' f (n - f)).flatMap fun i => (chsL n k (i + 1)).map (i :: ·)
/-- .. those whose first number is less than i. -/
def chsT (n k f i : Nat) : List (List Nat) := (List.range' f (i - f)).flatMap fun y => (chsL n k (y + 1)).map (y :: ·)
theorem chsT_self (n k f : Nat) : chsT n k f f = [] := by
  unfold chsT
  rw [Nat.sub_self]
  rfl
theorem chsT_succ {n k f i : Nat} (h : f ≤ i) : chsT n k f (i + 1) = chsT n k f i ++ (chsL n k (i + 1)).map (i :: ·) := by
  unfold chsT
  rw [show i + 1 - f = (i - f) + 1 by omega, List.range'_concat, List.flatMap_append, List.flatMap_singleton, show f + 1 * (i - f) = i by omega]
theorem chsT_end {n k f i : Nat} (hi : i = max f n) : chsT n k f i = chsL n (k + 1) f := by
  unfold chsT
  rw [show i - f = n - f by omega]
  rfl
theorem chs_mem {n : Nat} : ∀ {k f : Nat} {x : List Nat}, x ∈ chsL n k f → x.length = k ∧ ∀ i ∈ x, f ≤ i ∧ i < n
  | 0, f, x, h => by
    obtain rfl : x = [] := by simpa [chsL] using h
    exact ⟨rfl, fun i hi => absurd hi List.not_mem_nil⟩
  | k + 1, f, x, h => by
    obtain ⟨i, hi, h2⟩ := List.mem_flatMap.1 h
    obtain ⟨y, hy, rfl⟩ := List.mem_map.1 h2
    have hr := List.mem_range'_1.1 hi
    obtain ⟨h3, h4⟩ := chs_mem hy
    refine ⟨by simp [h3], fun j hj => ?_⟩
    rcases List.mem_cons.1 hj with rfl | hj
    · omega
    · have := h4 j hj
      omega
theorem flat_le {α β : Type} (g : α → List β) {B : Nat} : ∀ (l : List α), (∀ x ∈ l, (g x).length ≤ B) → (l.flatMap g).length ≤ l.length * B
  | [], _ => Nat.zero_le _
  | x :: l, h => by
    rw [List.flatMap_cons, List.length_append, List.length_cons, Nat.succ_mul]
    have h1 := h x (by simp)
    have h2 := flat_le g l (fun y hy => h y (by simp [hy]))
    omega
theorem chs_len {n : Nat} (hn : n ≤ 4) : ∀ (k f : Nat), (chsL n k f).length ≤ 4 ^ k
  | 0, f => by simp [chsL]
  | k + 1, f => by
    refine Nat.le_trans (flat_le _ (B := 4 ^ k) _ (fun i _ => by rw [List.length_map]; exact chs_len hn k (i + 1))) ?_
    rw [List.length_range', Nat.pow_succ, Nat.mul_comm (4 ^ k)]
    exact Nat.mul_le_mul_right _ (by omega)
theorem chs_le {n k f : Nat} (hn : n ≤ 4) (hk : k ≤ 4) : (chsL n k f).length ≤ 256 := Nat.le_trans (chs_len hn k f) (Nat.le_trans (Nat.pow_le_pow_right (by omega) hk) (by decide))
end Go.Proofs.YtofkhehcnfiopaaDoor.N
namespace Go.Proofs.YtofkhehcnfiopaaDoor.N
open Go Go.RowKit Go.Proofs
def onlyL (ags : List Ag) (l : List Nat) : List Ag := l.map fun i => ags.getD i default
theorem onlyL_len (ags : List Ag) (l : List Nat) : (onlyL ags l).length = l.length := List.length_map ..
theorem onlyL_ok {ags : List Ag} (hok : Oks ags) {l : List Nat} (hl : l.length ≤ 4) (h : ∀ i ∈ l, i < ags.length) : Oks (onlyL ags l) :=
  ⟨by rw [onlyL_len]; exact hl, fun x hx => by
    obtain ⟨i, hi, rfl⟩ := List.mem_map.1 hx
    exact agd_ok hok (h i hi)⟩
/-- Some agents that do as much as all. -/
def asAll (ags : List Ag) (p : Nat) (l : List Nat) : Prop := ∀ m, m < 64 → (Clr (onlyL ags l) (usedAll (onlyL ags l).length) p m ↔ Clr ags (usedAll ags.length) p m)
structure SeenC (n : Nat) (P : List Nat → Prop) (k i : Nat) : Prop where
  less : ∀ j u, j < k → u ∈ chsL n j 0 → ¬ P u
  now : ∀ j u, j < i → (chsL n k 0)[j]? = some u → ¬ P u
theorem SeenC.start {n : Nat} {P : List Nat → Prop} : SeenC n P 0 0 := ⟨fun _ _ h => absurd h (Nat.not_lt_zero _), fun _ _ h => absurd h (Nat.not_lt_zero _)⟩
theorem SeenC.next {n k i : Nat} {P : List Nat → Prop} (h : SeenC n P k i) {v : List Nat} (hv : (chsL n k 0)[i]? = some v) (hp : ¬ P v) : SeenC n P k (i + 1) :=
  ⟨h.less, fun j u hj hu => by
    rcases Nat.lt_succ_iff_lt_or_eq.1 hj with h1 | rfl
    · exact h.now j u h1 hu
    · rw [hv] at hu
      cases hu
      exact hp⟩
theorem SeenC.round {n k i : Nat} {P : List Nat → Prop} (h : SeenC n P k i) (hi : (chsL n k 0).length ≤ i) : SeenC n P (k + 1) 0 :=
  ⟨fun j u hj hu => by
    rcases Nat.lt_succ_iff_lt_or_eq.1 hj with h1 | rfl
    · exact h.less j u h1 hu
    · obtain ⟨x, hx⟩ := List.getElem?_of_mem hu
      exact h.now x u (Nat.lt_of_lt_of_le (List.getElem?_eq_some_iff.1 hx).1 hi) hx, fun _ _ h => absurd h (Nat.not_lt_zero _)⟩
/-- The first list that does it, the shorter ones first. -/
def FewS (n : Nat) (P : List Nat → Prop) (W : List Nat) : Prop := ∃ k i, (chsL n k 0)[i]? = some W ∧ P W ∧ SeenC n P k i
theorem FewS.unique {n : Nat} {P : List Nat → Prop} {W V : List Nat} (h : FewS n P W) (h' : FewS n P V) : W = V := by
  obtain ⟨k, i, h1, h2, h3⟩ := h
  obtain ⟨k', i', h1', h2', h3'⟩ := h'
  rcases Nat.lt_trichotomy k k' with hk | rfl | hk
  · exact absurd h2 (h3'.less k W hk (List.mem_of_getElem? h1))
  · rcases Nat.lt_trichotomy i i' with hi | rfl | hi
    · exact absurd h2 (h3'.now i W hi h1)
    · rw [h1] at h1'
      exact Option.some.inj h1'
    · exact absurd h2' (h3.now i' V hi h1')
  · exact absurd h2' (h3.less k' V hk (List.mem_of_getElem? h1'))
theorem chs_short {n : Nat} : ∀ (k f : Nat), n < f + (k + 1) → chsL n (k + 1) f = []
  | 0, f, h => by
    unfold chsL
    rw [show n - f = 0 by omega]
    rfl
  | k + 1, f, h => by
    unfold chsL
    refine List.flatMap_eq_nil_iff.2 fun i hi => ?_
    have hr := List.mem_range'_1.1 hi
    rw [chs_short k (i + 1) (by omega)]
    rfl
/-- All agents. -/
theorem chs_all (n : Nat) : ∀ (k f : Nat), f + k = n → chsL n k f = [List.range' f k]
  | 0, f, _ => rfl
  | k + 1, f, h => by
    unfold chsL
    have e : List.range' f (n - f) = f :: List.range' (f + 1) k := by rw [show n - f = k + 1 by omega, List.range'_succ]
    rw [e, List.flatMap_cons, chs_all n k (f + 1) (by omega), List.map_cons, List.map_nil]
    have e2 : ((List.range' (f + 1) k).flatMap fun i => (chsL n k (i + 1)).map (i :: ·)) = [] := by
      refine List.flatMap_eq_nil_iff.2 fun i hi => ?_
      have hr := List.mem_range'_1.1 hi
      cases k with
      | zero => omega
      | succ k => rw [chs_short k (i + 1) (by omega)]; rfl
    rw [e2]
    rfl
theorem asAll_all {ags : List Ag} {p : Nat} : asAll ags p (List.range' 0 ags.length) := by
  have e : onlyL ags (List.range' 0 ags.length) = ags := by
    unfold onlyL
    apply List.ext_getElem?
    intro i
    rw [List.getElem?_map]
    by_cases hi : i < ags.length
    · rw [List.getElem?_range' hi, List.getElem?_eq_getElem hi]
      simp [List.getD_eq_getElem?_getD, hi]
    · rw [List.getElem?_eq_none (by simp; omega), List.getElem?_eq_none (by omega)]
      rfl
  intro m _
  rw [e]
end Go.Proofs.YtofkhehcnfiopaaDoor.N
namespace Go.Proofs.YtofkhehcnfiopaaDoor.N
open Go Go.RowKit Go.Proofs
/-- A set of agents as a number. -/
def maskL (l : List Nat) : Nat := l.foldl (fun s i => s ||| (1 <<< i)) 0
theorem maskL_snoc (l : List Nat) (i : Nat) : maskL (l ++ [i]) = maskL l ||| (1 <<< i) := by unfold maskL; rw [List.foldl_append]; rfl
theorem mask_bit : ∀ (l : List Nat) (s j : Nat), (l.foldl (fun s i => s ||| (1 <<< i)) s).testBit j = (s.testBit j || decide (j ∈ l))
  | [], s, j => by simp
  | i :: l, s, j => by
    rw [List.foldl_cons, mask_bit l _ j, Nat.testBit_or]
    have h : (1 <<< i).testBit j = decide (i = j) := by rw [Nat.one_shiftLeft, Nat.testBit_two_pow]
    rw [h]
    by_cases h1 : i = j
    · subst h1; simp
    · have h2 : ¬ j = i := fun e => h1 e.symm
      simp [h1, h2]
theorem maskL_bit (l : List Nat) (j : Nat) : (maskL l).testBit j = decide (j ∈ l) := by unfold maskL; rw [mask_bit]; simp
theorem maskL_lt {l : List Nat} {n : Nat} (h : ∀ i ∈ l, i < n) : maskL l < 2 ^ n := by
  have key : ∀ (l : List Nat) (s : Nat), (∀ i ∈ l, i < n) → s < 2 ^ n → l.foldl (fun s i => s ||| (1 <<< i)) s < 2 ^ n := by
    intro l
    induction l with
    | nil => intro s _ hs; exact hs
    | cons i l ih =>
      intro s hl hs
      rw [List.foldl_cons]
      refine ih _ (fun j hj => hl j (by simp [hj])) (Nat.or_lt_two_pow hs ?_)
      rw [Nat.one_shiftLeft]
      exact Nat.pow_lt_pow_right (by omega) (hl i (by simp))
  exact key l 0 h (Nat.two_pow_pos n)
theorem maskL_lt16 {l : List Nat} (h : ∀ i ∈ l, i < 4) : maskL l < 16 := maskL_lt (n := 4) h
/-- An ascending list is what its set is read out as. -/
theorem chs_sorted {n : Nat} : ∀ {k f : Nat} {x : List Nat}, x ∈ chsL n k f → x.Pairwise (· < ·)
  | 0, f, x, h => by
    obtain rfl : x = [] := by simpa [chsL] using h
    exact .nil
  | k + 1, f, x, h => by
    obtain ⟨i, hi, h2⟩ := List.mem_flatMap.1 h
    obtain ⟨y, hy, rfl⟩ := List.mem_map.1 h2
    exact .cons (fun j hj => by have := (chs_mem hy).2 j hj; omega) (chs_sorted hy)
/-- What has been read out so far. -/
def outL (l : List Nat) (k : Nat) : List Nat := (List.range k).filter fun i => decide (i ∈ l)
theorem outL_yes {l : List Nat} {k : Nat} (h : k ∈ l) : outL l (k + 1) = outL l k ++ [k] := by
  unfold outL
  rw [List.range_succ, List.filter_append]
  simp [h]
theorem outL_no {l : List Nat} {k : Nat} (h : k ∉ l) : outL l (k + 1) = outL l k := by
  unfold outL
  rw [List.range_succ, List.filter_append]
  simp [h]
theorem outL_len (l : List Nat) (k : Nat) : (outL l k).length ≤ k := by
  unfold outL
  exact Nat.le_trans (List.length_filter_le _ _) (by simp)
theorem sorted_ext : ∀ {x y : List Nat}, x.Pairwise (· < ·) → y.Pairwise (· < ·) → (∀ i, i ∈ x ↔ i ∈ y) → x = y
  | [], [], _, _, _ => rfl
  | [], b :: y, _, _, h => absurd ((h b).2 (by simp)) (by simp)
  | a :: x, [], _, _, h => absurd ((h a).1 (by simp)) (by simp)
  | a :: x, b :: y, hx, hy, h => by
    have hx1 := List.pairwise_cons.1 hx
    have hy1 := List.pairwise_cons.1 hy
    obtain rfl : a = b := by
      rcases List.mem_cons.1 ((h a).1 (by simp)) with h1 | h1
      · exact h1
      · have h2 := hy1.1 a h1
        rcases List.mem_cons.1 ((h b).2 (by simp)) with h3 | h3
        · omega
        · have := hx1.1 b h3
          omega
    congr 1
    refine sorted_ext hx1.2 hy1.2 fun i => ?_
    constructor
    · intro hi
      rcases List.mem_cons.1 ((h i).1 (by simp [hi])) with h1 | h1
      · have := hx1.1 i hi; omega
      · exact h1
    · intro hi
      rcases List.mem_cons.1 ((h i).2 (by simp [hi])) with h1 | h1
      · have := hy1.1 i hi; omega
      · exact h1
theorem range_sorted (n : Nat) : (List.range n).Pairwise (· < ·) := by
  rw [List.range_eq_range']
  exact List.pairwise_lt_range'
theorem outL_all {l : List Nat} {n : Nat} (hs : l.Pairwise (· < ·)) (h : ∀ i ∈ l, i < n) : outL l n = l :=
  sorted_ext ((range_sorted n).filter _) hs fun i => by
    unfold outL
    rw [List.mem_filter, List.mem_range]
    exact ⟨fun hi => by simpa using hi.2, fun hi => ⟨h i hi, by simpa using hi⟩⟩
/-- With some agents alone. -/
theorem only_clr {ags : List Ag} {l : List Nat} {p f : Nat} (h : ∀ i ∈ l, i < ags.length) : Clr (onlyL ags l) (usedAll (onlyL ags l).length) p f ↔ Clr ags (maskL l) p f := by
  have hus : ∀ x, Us ags (maskL l) x ↔ x ∈ onlyL ags l := by
    intro x
    constructor
    · rintro ⟨i, h1, h2, rfl⟩
      rw [maskL_bit] at h2
      exact List.mem_map.2 ⟨i, of_decide_eq_true h2, rfl⟩
    · intro hx
      obtain ⟨i, hi, rfl⟩ := List.mem_map.1 hx
      exact ⟨i, h i hi, by rw [maskL_bit]; exact decide_eq_true hi, rfl⟩
  constructor
  · exact Clr.mono (fun x hx => (hus x).2 (us_all.1 hx)) (fun _ h => h)
  · exact Clr.mono (fun x hx => us_all.2 ((hus x).1 hx)) (fun _ h => h)
theorem sets_eq {ags : List Ag} {l : List Nat} {p n m : Nat} (h : ∀ i ∈ l, i < ags.length) (hn : SetN n (Clr ags (maskL l) p)) (hm : SetN m (Clr ags (usedAll ags.length) p)) : (n : Int) = (m : Int) ↔ asAll ags p l := by
  constructor
  · intro e f hf
    have e' : n = m := by omega
    subst e'
    rw [only_clr h, ← hn.2 f hf, ← hm.2 f hf]
  · intro ha
    have : SetN n (Clr ags (usedAll ags.length) p) := ⟨hn.1, fun f hf => by rw [hn.2 f hf, ← only_clr h]; exact ha f hf⟩
    have := this.eq hm
    omega
end Go.Proofs.YtofkhehcnfiopaaDoor.N
namespace Go.Proofs.YtofkhehcnfiopaaDoor.N
open Go Go.RowKit Go.Proofs

/-! A range over a function. -/
section
variable {C : Ctx} {fr : List (Nat × Value)} {hp hp' : List Res} {a : Act} {w : World} {ops : Array Oper} {Q : Exit → Act → World → Prop} {rest : List Oper}
  {d : Nat} {ty : TypeId} {pos : String} {after : Array Edge} {r : Nat}

/-- A piece of code in a round's frame. -/
def CodR (C : Ctx) (r : Nat) (c : Code) (Q : Exit → Act → World → Prop) (fr : List (Nat × Value)) (hp : List Res) : Prop :=
  ∀ a w, At C fr hp a w → c.wpIn (Fence.wide.inRound r) 0 C.P Q a w
theorem room_round (r n : Nat) : (Fence.wide.inRound r).room n := fun _ h => by simp [Fence.wide] at h
theorem callsIn_round {n : Nat} {P : Program} {f : FuncId} {args : Array Value} {w : World} {R : Ending → World → Prop} (h : Calls P f args w R) : CallsIn (Fence.wide.inRound r) n P f args w R :=
  (callsIn_wide.2 h : CallsIn Fence.wide n P f args w R)
theorem rowsIn_wide {F : Fence} (hF : ∀ m m' P, Steps P m m' → StepsIn (Machine.fenced P F) P m m') {n : Nat} {P : Program} {row : String} {args : Array Value} {w : World} {R : Value → World → Prop} (h : Rows P row args w R) : RowsIn F n P row args w R :=
  fun c cs _ => let ⟨v, w', h1, h2⟩ := h c cs; ⟨v, w', h1, hF _ _ _ h2⟩
theorem steps_round {r : Nat} (m m' : Machine) (P : Program) (h : Steps P m m') : StepsIn (Machine.fenced P (Fence.wide.inRound r)) P m m' := (stepsIn_wide.2 h : StepsIn (Machine.fenced P Fence.wide) P m m')
theorem listR {P : Program} {ops : Array Oper} {Q : Exit → Act → World → Prop} (hQ : ∀ a w, Q .outgrown a w → False) : ∀ (l : List Oper), (l.all fun o => match o.op with | .defer _ => false | _ => true) = true → ∀ (a : Act) (w : World), wpList P ops Q l a w → wpListIn (Fence.wide.inRound r) 0 P ops Q l a w
  | [], _, a, w, h => h
  | o :: l, hl, a, w, h => by
    simp only [List.all_cons, Bool.and_eq_true] at hl
    have ih := listR (P := P) (ops := ops) (Q := Q) hQ l hl.2
    have hno : ∀ c, o.op ≠ .defer c := by
      intro c hc
      have := hl.1
      rw [hc] at this
      cases this
    simp only [wpList, wpListIn] at h ⊢
    split at h
    · rename_i hw
      rw [if_pos hw]
      rcases h with h | ⟨_, a', w', h⟩
      · refine ⟨fun _ _ => trivial, ?_⟩
        rw [show (Fence.wide.inRound r).round = some r from rfl, Oper.semAt_some r _ _ hno]
        unfold Oper.wp at h
        generalize (execOp a.eval o).run P w = x at h ⊢
        match x, h with
        | .ok (.value v) w', h => exact ih _ _ h
        | .ok .skip w', h => exact ih _ _ h
        | .ok (.defer d) w', h => exact ih _ _ h
        | .ok (.enter f args) w', h =>
          refine ⟨fun hd => by simp [Fence.wide] at hd, (callsIn_round h).mono ?_⟩
          intro e w'' he
          cases e with
          | returned v => exact ih _ _ he
          | panicked ch => exact he
          | outgrown => exact he
        | .ok (.row row args) w', h => exact ⟨fun hd => by simp [Fence.wide] at hd, (rowsIn_wide steps_round h).mono fun v w'' he => ih _ _ he⟩
        | .halt (.panic v) w', h => exact h
      · exact (hQ a' w' h).elim
    · rename_i hw
      rw [if_neg hw]
      exact ⟨fun _ _ => trivial, ih _ _ h⟩
theorem codR_region {id : Nat} {l : List Oper} (hQ : ∀ a w, Q .outgrown a w → False) (hl : (l.all fun o => match o.op with | .defer _ => false | _ => true) = true) (h : Lst C l.toArray Q l fr hp) : CodR C r (.region id l.toArray false) Q fr hp :=
  fun a w ha => wpIn_region_lit (listR hQ l hl a w (h a w ha))
theorem codR_seq {x y : Code} (h : CodR C r x (Exit.then (y.wpIn (Fence.wide.inRound r) 0 C.P Q) Q) fr hp) : CodR C r (x.seq y) Q fr hp := fun a w ha => wpIn_seq (h a w ha)
theorem exR_then {y : Code} (h : CodR C r y Q fr hp) : Ex C (Exit.then (y.wpIn (Fence.wide.inRound r) 0 C.P Q) Q) .normal fr hp := h
theorem codR_skip (h : Ex C Q .normal fr hp) : CodR C r .skip Q fr hp := fun a w ha => wpIn_skip (h a w ha)
theorem codR_exit {i : Nat} (h : Ex C Q (.exit i) fr hp) : CodR C r (.exit i) Q fr hp := fun a w ha => wpIn_exit (h a w ha)
theorem codR_ret (h : Ex C Q .ret fr hp) : CodR C r .ret Q fr hp := fun a w ha => wpIn_ret (h a w ha)
theorem codR_block {i : Nat} {c : Code} (h : CodR C r c (Exit.inBlock i Q) fr hp) : CodR C r (.block i c) Q fr hp := fun a w ha => wpIn_block (h a w ha)
theorem codR_cond_true {c : Operand} {x y : Code} (hc : ev fr c = some (.bool true)) (h : CodR C r x Q fr hp) : CodR C r (.cond c x y) Q fr hp := fun a w ha => wpIn_cond_true (ha.eval hc) (h a w ha)
theorem codR_cond_false {c : Operand} {x y : Code} (hc : ev fr c = some (.bool false)) (h : CodR C r y Q fr hp) : CodR C r (.cond c x y) Q fr hp := fun a w ha => wpIn_cond_false (ha.eval hc) (h a w ha)
theorem codR_cond_bool {c : Operand} {x y : Code} {b : Bool} (hc : ev fr c = some (.bool b)) (h : b = true → CodR C r x Q fr hp) (h' : b = false → CodR C r y Q fr hp) : CodR C r (.cond c x y) Q fr hp := by
  cases b with
  | true => exact codR_cond_true hc (h rfl)
  | false => exact codR_cond_false hc (h' rfl)
theorem codR_cond_dec {c : Operand} {x y : Code} {p : Prop} [Decidable p] (hc : ev fr c = some (.bool (decide p))) (h : p → CodR C r x Q fr hp) (h' : ¬p → CodR C r y Q fr hp) : CodR C r (.cond c x y) Q fr hp := by
  by_cases hp' : p
  · rw [decide_eq_true hp'] at hc; exact codR_cond_true hc (h hp')
  · rw [decide_eq_false hp'] at hc; exact codR_cond_false hc (h' hp')
theorem codR_loop' {G : Type} {c : Code} (p : G → Prop) (μ : G → Nat) (f : G → List (Nat × Value)) (h : G → List Res) (g0 : G) (h0 : p g0) (hs : Sub (f g0) fr) (hh : Pck (h g0) hp)
    (round : ∀ g, p g → CodR C r c (Exit.then (Rnd C p μ f h g) Q) (f g) (h g)) : CodR C r (.loop c) Q fr hp := by
  intro a w ha
  have key : ∀ (n : Nat) (b : Frame) (k : List Item) (cs : List Frame) (g : G), b.roundOf = (Fence.wide.inRound r).round → μ g = n → p g → ∀ a w, At C (f g) (h g) a w →
      ∃ e a' w', Q e a' w' ∧ ArrivesIn (Machine.fenced C.P (Fence.wide.inRound r)) C.P (lone (b.atR a (.code c :: .inLoop c :: k)) cs w) b k cs e a' w' := by
    intro n b k cs
    induction n using Nat.strongRecOn with
    | _ n ih =>
      intro g hb hn hpg a w ha
      obtain ⟨e, a₁, w₁, hq, harr⟩ := round g hpg a w ha b (.inLoop c :: k) cs hb trivial (room_round r _)
      cases e with
      | normal =>
        obtain ⟨g', hp', hlt, ha'⟩ := hq
        obtain ⟨e₂, a₂, w₂, hq₂, harr₂⟩ := ih _ (by omega) g' hb rfl hp' a₁ w₁ ha'
        exact ⟨e₂, a₂, w₂, hq₂, .of_steps (StepsIn.trans harr (.one (fenced_calm (n := 0) trivial (room_round r _) rfl) stepR_inLoop)) harr₂⟩
      | exit id => exact ⟨_, a₁, w₁, hq, .pass (x := .inLoop c) rfl (fun _ _ => .inl (by simp)) harr⟩
      | goto l => exact ⟨_, a₁, w₁, hq, .pass (x := .inLoop c) rfl (fun _ _ => .inl (by simp)) harr⟩
      | ret => exact ⟨_, a₁, w₁, hq, .pass (x := .inLoop c) rfl (fun _ _ => .inl (by simp)) harr⟩
      | panic ch => exact ⟨_, a₁, w₁, hq, .pass (x := .inLoop c) rfl (fun _ _ => .inl (by simp)) harr⟩
      | outgrown => exact ⟨_, a₁, w₁, hq, .pass (x := .inLoop c) rfl (fun _ _ => .inl (by simp)) harr⟩
  intro b k cs hb _ _
  obtain ⟨e, a', w', hq, harr⟩ := key _ b k cs g0 hb rfl h0 a w ((ha.drop_slots hs).pck hh)
  exact ⟨e, a', w', hq, .of_steps (.one (fenced_calm (n := 0) trivial (room_round r _) rfl) stepR_loop) harr⟩

/-- A walk on its own ground goes on upon the wider one. -/
theorem codR_widen {C' : Ctx} {fr0 : List (Nat × Value)} {hp0 : List Res} {a0 : Act} {c : Code} {w1 : World} (h0 : At C fr0 hp0 a0 w1) (hP : C'.P = C.P) (hw : C'.w0 = w1) (hB : C'.B = w1.heap.size) (hN : C'.N = C.N) (hds : C'.ds = C.ds)
    (h : CodR C r c Q fr (hp ++ hp0)) : CodR C' r c Q fr hp := by
  obtain ⟨P, B, w0, N, ds⟩ := C'
  simp only at hP hw hB hN hds
  subst hP; subst hw; subst hB; subst hN; subst hds
  intro a w ha
  have hg := h0.grew (w' := w) ha.below (rs := hp) (fun r hr => ha.own r hr) ha.apart
  exact h a w ⟨ha.size, ha.defs, ha.slots, hg.below, hg.base, hg.own, hg.apart⟩

theorem enter_marks {P : Program} {f : FuncId} {fn : Func} {c : Code} {vs : List Value} {w : World} {R : Ending → World → Prop} {N : Nat} (fr : List (Nat × Value))
    (hf : P.funcs[f]? = some fn) (hb : fn.body = some c) (hN : fn.ntmps = N) (hle : Nat.ble vs.length N = true) (hfr : idx 0 vs = fr)
    (h : Cod ⟨P, w.heap.size, w, N, []⟩ c (bodyPostM Fence.wide 0 P fn R) fr []) : Calls P f vs.toArray w R := by
  refine callsIn_wide.1 (callsIn_of_wp_marks hf hb trivial (wpIn_wide.2 (h _ _ ⟨?_, rfl, ?_, Below.refl _ _, Nat.le_refl _, (fun r hr => by cases hr), List.nodup_nil⟩)) : CallsIn Fence.wide 0 P f vs.toArray w R)
  · have : vs.length ≤ N := by simpa [Nat.ble_eq] using hle
    simp [hN]; omega
  · intro t v ht
    rw [← hfr] at ht
    obtain ⟨j, rfl, hj⟩ := look_idx vs 0 t v ht
    have hjl : j < vs.length := by
      rcases Nat.lt_or_ge j vs.length with h1 | h1
      · exact h1
      · rw [List.getElem?_eq_none h1] at hj; cases hj
    simp only [Nat.zero_add, Array.getD_eq_getD_getElem?]
    rw [Array.getElem?_append_left (by simpa using hjl)]
    simp [hj]
end
end Go.Proofs.YtofkhehcnfiopaaDoor.N
namespace Go.Proofs.YtofkhehcnfiopaaDoor.N
open Go Go.RowKit Go.Proofs
section
variable {C : Ctx} {fr : List (Nat × Value)} {hp hp' hpT : List Res} {a : Act} {w : World} {ops : Array Oper} {Q : Exit → Act → World → Prop} {rest : List Oper}
  {d : Nat} {ty : TypeId} {pos : String} {after : Array Edge} {r : Nat} {S : World → Prop} {fuel : Nat} {listed listed' : Array Bool}

/-- The same slots, on ground of its own. -/
abbrev Ctx.here (C : Ctx) (w : World) : Ctx := ⟨C.P, w.heap.size, w, C.N, C.ds⟩
theorem At.fresh (ha : At C fr hp a w) : At (C.here w) fr [] a w := ⟨ha.size, ha.defs, ha.slots, Below.refl _ _, Nat.le_refl _, (fun r hr => by cases hr), List.nodup_nil⟩
/-! A call that comes back in one of two ways. -/
theorem lst_call_two {x : Operand} {f : FuncId} {first cap vs : List Value} {args : Array Operand} {ts : Array TypeId} {vT vF : Value} {M : World → Prop} (pT : Prop) (hd : Nat.blt d C.N = true)
    (hx : ev fr x = some (.func (.func f) first.toArray cap.toArray)) (hargs : args.toList.map (ev fr) = vs.map some) (hf : Enters C.P f)
    (hc : ∀ a w, At C fr hp a w → Calls C.P f (first ++ vs ++ cap).toArray w fun e w' => (e = .returned vT ∧ pT ∧ At C fr hpT a w') ∨ (e = .returned vF ∧ M w'))
    (kT : pT → Lst C ops Q rest ((d, vT) :: fr) hpT) (kF : ∀ w', M w' → Lst (C.here w') ops Q rest ((d, vF) :: fr) []) :
    Lst C ops Q (⟨some d, .call { callee := .value x, args := args, argTypes := ts }, ty, pos, after, none⟩ :: rest) fr hp := by
  intro a w ha
  refine wpList_plain rfl fun K hK => ?_
  unfold Oper.wp
  have hr : (execOp a.eval ⟨some d, .call { callee := .value x, args := args, argTypes := ts }, ty, pos, after, none⟩).run C.P w = .ok (.enter f (first ++ vs ++ cap).toArray) w := by
    simp only [execOp, resolve, ev_args ha hargs, ha.eval hx, Deferred.ofValue, Sem.run_bind, Sem.run_pure, Result.andThen_ok, invoke, List.append_toArray]
    exact hf _ w
  rw [hr]
  show Calls C.P f _ w _
  refine (hc a w ha).mono ?_
  rintro e w' (⟨rfl, h1, h2⟩ | ⟨rfl, h2⟩)
  · exact hK _ _ (kT h1 _ _ (h2.put (lt_of_blt hd) _))
  · have h3 : At (C.here w') fr [] a w' := ⟨ha.size, ha.defs, ha.slots, Below.refl _ _, Nat.le_refl _, (fun r hr => by cases hr), List.nodup_nil⟩
    exact hK _ _ (kF w' h2 _ _ (h3.put (lt_of_blt hd) _))

/-! Drawn regions under a condition of one's own. -/
def AnyG (C : Ctx) (ops : Array Oper) (Q : Exit → Act → World → Prop) (S : World → Prop) (fuel : Nat) (listed : Array Bool) (fr : List (Nat × Value)) (hp : List Res) : Prop :=
  ∀ a w, At C fr hp a w → S w → wpAnyH C.P .any ops (OnlyN Q) S fuel listed a w
theorem anyG_start {id : Nat} {l : List Oper} (S : World → Prop) (hm : C.P.follows .mixedOrders = true) (n : Nat) (hn : l.length = n) (lst : List Bool) (hl : Array.replicate n false = lst.toArray) (hS : ∀ a w, At C fr hp a w → S w)
    (h : AnyG C l.toArray Q S n lst.toArray fr hp) : Cod C (.region id l.toArray true) Q fr hp := by
  intro a w ha
  refine wp_mono (Q := OnlyN Q) (wp_region_held (S := S) hm ?_) ?_
  · have h1 := h a _ ha.drew (hS _ _ ha.drew)
    rw [← hl] at h1
    simpa [hn] using h1
  · intro e a' w' he
    cases e with
    | normal => exact he
    | _ => exact he.elim
theorem anyG_done {rs : List Nat} (hr : Region.ready .any ops listed = rs) (h0 : rs = []) (h : Ex C Q .normal fr hp) : AnyG C ops Q S fuel listed fr hp :=
  fun a w ha _ => wpAnyH_done (hr.trans h0) (show OnlyN Q .normal a w from h a w ha) fuel
theorem anyG_take {o : Oper} {v : Value} (i : Nat) (hi : ops[i]? = some o) (hdst : o.dst = some d) (hd : Nat.blt d C.N = true) (hns : Region.noSelect ops = true) (hf : Region.free .any ops listed i = true) (hr : (Region.ready .any ops listed).contains i = true)
    (y : ∀ w, S w → Yld (C.here w) o fr [] v) (hl : listed.setIfInBounds i true = listed') (k : AnyG C ops Q S fuel listed' ((d, v) :: fr) hp) : AnyG C ops Q S (fuel + 1) listed fr hp := by
  intro a w ha hS
  refine wpAnyH_take hi hns hf hr (fun c a w h => h.elim) (.inl ⟨?_, fun w' hw' => (y w' hw').2 a w' ?_⟩) hS ?_
  · unfold Region.wanted; rw [(y w hS).1]
  · exact ⟨ha.size, ha.defs, ha.slots, Below.refl _ _, Nat.le_refl _, (fun r hr => by cases hr), List.nodup_nil⟩
  · rw [hl, hdst]
    exact k _ _ (ha.put (lt_of_blt hd) v) hS
def NxtG (C : Ctx) (ops : Array Oper) (Q : Exit → Act → World → Prop) (S : World → Prop) (fuel : Nat) (listed : Array Bool) (a : Act) (w : World) : Prop :=
  S w ∧ wpAnyH C.P .any ops (OnlyN Q) S fuel listed a w
theorem anyG_one {o : Oper} (i : Nat) (hr : Region.ready .any ops listed = [i]) (hi : ops[i]? = some o) (hl : listed.setIfInBounds i true = listed') (h : Lst C ops (Exit.then (NxtG C ops Q S fuel listed') (OnlyN Q)) [o] fr hp) : AnyG C ops Q S (fuel + 1) listed fr hp := by
  intro a w ha _
  refine wpAnyH_all hr (by simp) ?_
  intro k hk
  simp at hk
  subst hk
  rw [hl]
  exact op_of_lst hi h ha
theorem exG_next {C' : Ctx} (hP : C'.P = C.P) (hS : ∀ a w, At C fr hp a w → S w) (h : AnyG C ops Q S fuel listed fr hp) : Ex C (Exit.then (NxtG C' ops Q S fuel listed) (OnlyN Q)) .normal fr hp :=
  fun a w ha => ⟨hS a w ha, by rw [hP]; exact h a w ha (hS a w ha)⟩

/-! A region in which yield is called. -/
def LstW (C : Ctx) (ops : Array Oper) (Q : Exit → Act → World → Prop) (l : List Oper) (fr : List (Nat × Value)) (hp : List Res) : Prop := ∀ a w, At C fr hp a w → wpListIn Fence.wide 0 C.P ops Q l a w
theorem cod_regionW {id : Nat} {l : List Oper} (h : LstW C l.toArray Q l fr hp) : Cod C (.region id l.toArray false) Q fr hp := fun a w ha => wpIn_wide.1 (wpIn_region_lit (h a w ha) : Code.wpIn Fence.wide 0 C.P _ Q a w)
theorem lstW_nil (k : Ex C Q .normal fr hp) : LstW C ops Q [] fr hp := fun a w ha => wpListIn_nil (k a w ha)
theorem lstW_yld {o : Oper} {v : Value} (hdst : o.dst = some d) (hd : Nat.blt d C.N = true) (y : Yld C o fr hp v) (k : LstW C ops Q rest ((d, v) :: fr) hp) : LstW C ops Q (o :: rest) fr hp := by
  intro a w ha
  refine wpListIn_plain y.1 fun K hK => ?_
  refine ⟨fun _ _ => trivial, ?_⟩
  rw [show Fence.wide.round = none from rfl, Oper.semAt_none, y.2 a w ha]
  show K (a.put o.dst v) w
  rw [hdst]
  exact hK _ _ (k _ _ (ha.put (lt_of_blt hd) _))
theorem lstW_yield {x : Operand} {vs : List Value} {args : Array Operand} {ts : Array TypeId} {M : World → Prop} (pT : Prop) (hd : Nat.blt d C.N = true)
    (hx : ev fr x = some (.func (.yield r) #[] #[])) (hargs : args.toList.map (ev fr) = vs.map some)
    (hc : ∀ a w, At C fr hp a w → YieldAt Fence.wide 0 C.P r vs.toArray w fun e w' => (e = .returned (.bool true) ∧ pT ∧ At C fr hpT a w') ∨ (e = .returned (.bool false) ∧ M w'))
    (kT : pT → LstW C ops Q rest ((d, .bool true) :: fr) hpT) (kF : ∀ w', M w' → LstW (C.here w') ops Q rest ((d, .bool false) :: fr) []) :
    LstW C ops Q (⟨some d, .call { callee := .value x, args := args, argTypes := ts }, ty, pos, after, none⟩ :: rest) fr hp := by
  intro a w ha
  refine wpListIn_plain rfl fun K hK => ?_
  refine ⟨fun _ _ => trivial, ?_⟩
  obtain ⟨fn, tmps, assign, body, hy, hR⟩ := hc a w ha
  have hr : (execOp a.eval ⟨some d, .call { callee := .value x, args := args, argTypes := ts }, ty, pos, after, none⟩).run C.P w = .ok (.round r fn tmps assign body) w := by
    simp only [execOp, resolve, ev_args ha hargs, ha.eval hx, Deferred.ofValue, Sem.run_bind, Sem.run_pure, Result.andThen_ok, invoke, List.append_toArray]
    simpa using hy
  rw [show Fence.wide.round = none from rfl, Oper.semAt_none, hr]
  refine ⟨fun hd => by simp [Fence.wide] at hd, hR.mono ?_⟩
  rintro e w' (⟨rfl, h1, h2⟩ | ⟨rfl, h2⟩)
  · exact hK _ _ (kT h1 _ _ (h2.put (lt_of_blt hd) _))
  · have h3 : At (C.here w') fr [] a w' := ⟨ha.size, ha.defs, ha.slots, Below.refl _ _, Nat.le_refl _, (fun r hr => by cases hr), List.nodup_nil⟩
    exact hK _ _ (kF w' h2 _ _ (h3.put (lt_of_blt hd) _))

/-! The statement. -/
/-- The record of a loop that has begun. -/
abbrev recOf (fn : FuncId) (a : Act) (ps : Array Tmp) (assign body : Code) (D : Nat) (st : LoopState) (pe : Option Code) : Loop := { state := st, pending := pe, fn, tmps := a.tmps, params := ps, assign, body, defers := D }
theorem cod_range {g : Operand} {ps : Array Tmp} {assign body : Code} {gf : FuncId} {lb : List Value} (hg : ev fr g = some (.func (.func gf) #[] lb.toArray)) (he : Enters C.P gf)
    (h : ∀ a w, At C fr hp a w → ∀ fn, Calls C.P gf (#[.func (.yield (w.heap.size + 1)) #[] #[]] ++ lb.toArray) ((w.alloc (.deferred (some []))).alloc (.loop (recOf fn a ps assign body w.heap.size .ready none))) fun e w3 =>
      (∃ v, e = .returned v) ∧ ∃ st pe, st ≠ .busy ∧ w3.heap[w.heap.size + 1]? = some (.loop (recOf fn a ps assign body w.heap.size st pe)) ∧
        (pe = none ∧ Q .normal { a with defers := { target := .collected w.heap.size, args := #[] } :: a.defers } (w3.putObj (w.heap.size + 1) (.loop (recOf fn a ps assign body w.heap.size .exhausted pe))) ∨
         pe = some .ret ∧ Q .ret { a with defers := { target := .collected w.heap.size, args := #[] } :: a.defers } (w3.putObj (w.heap.size + 1) (.loop (recOf fn a ps assign body w.heap.size .exhausted pe))))) :
    Cod C (.rangeFunc g ps assign body) Q fr hp := by
  intro a w ha
  refine wpIn_wide.1 (wpIn_rangeFunc ?_ : Code.wpIn Fence.wide 0 C.P _ Q a w)
  intro fn _
  obtain ⟨W1, hW1⟩ : ∃ W1, W1 = (w.alloc (.deferred (some []))).alloc (.loop (recOf fn a ps assign body w.heap.size .ready none)) := ⟨_, rfl⟩
  refine ⟨w.heap.size + 1, [{ target := .collected w.heap.size, args := #[] }], W1, { target := .fn (.func gf) lb.toArray, args := #[.func (.yield (w.heap.size + 1)) #[] #[]] }, W1, gf,
    #[.func (.yield (w.heap.size + 1)) #[] #[]] ++ lb.toArray, W1, ?_, ?_, fun _ _ => trivial, ?_, fun hd => by simp [Fence.wide] at hd, ?_⟩
  · rw [hW1]; exact run_enterLoop_outer fn a.tmps ps assign body
  · simp only [resolve, ha.eval hg]
    simp [go_sem]
  · simp only [invoke]
    have e : (callFunc gf (#[.func (.yield (w.heap.size + 1)) #[] #[]] ++ lb.toArray)).run C.P W1 = .ok (.enter gf (#[.func (.yield (w.heap.size + 1)) #[] #[]] ++ lb.toArray)) W1 := he _ _
    simpa using e
  · rw [hW1]
    refine callsIn_wide.2 ((h a w ha fn).mono ?_)
    rintro e w3 ⟨⟨v, rfl⟩, st, pe, hst, hl, hq⟩
    refine ⟨pe, _, run_endLoop hl hst, ?_⟩
    rcases hq with ⟨rfl, hq⟩ | ⟨rfl, hq⟩
    · exact hq
    · exact wpIn_ret hq
end
end Go.Proofs.YtofkhehcnfiopaaDoor.N
namespace Go.Proofs.YtofkhehcnfiopaaDoor.N
open Go Go.RowKit Go.Proofs
section
variable {C : Ctx} {fr : List (Nat × Value)} {hp hp' : List Res} {a : Act} {w : World} {ops : Array Oper} {Q : Exit → Act → World → Prop} {rest : List Oper}
  {d : Nat} {ty : TypeId} {pos : String} {after : Array Edge}
/-- A byte of a table of small numbers. -/
theorem lst_index_tab {x y : Operand} {t : TypeId} {s : ByteArray} {i N B : Nat} (hd : Nat.blt d C.N = true) (hx : ev fr x = some (.string s)) (hy : ev fr y = some (.int .u8 (i : Int))) (ht : C.P.underlying t = some .string)
    (hall : (List.range N).all (fun i => (s[i]?).any fun b => Nat.ble b.toNat B) = true) (hi : i < N) (k : ∀ n : Nat, n ≤ B → Lst C ops Q rest ((d, .int .u8 (n : Int)) :: fr) hp) :
    Lst C ops Q (⟨some d, .index t x y, ty, pos, after, none⟩ :: rest) fr hp := by
  have h1 := List.all_eq_true.1 hall i (List.mem_range.2 hi)
  cases hb : s[i]? with
  | none => rw [hb] at h1; cases h1
  | some b =>
    rw [hb] at h1
    refine lst_value _ hd (fun a w ha => ⟨w, ?_, ha⟩) (k b.toNat (by simpa [Nat.ble_eq] using h1))
    simp [execOp, ha.eval hx, ha.eval hy, Instr.index, asIntOf, run_underlying ht, hb]
theorem lst_make_cap {t e : TypeId} {x y : Operand} {n : Nat} (hd : Nat.blt d C.N = true) (hx : ev fr x = some (.int .i64 0)) (hy : ev fr y = some (.int .i64 (n : Int))) (ht : C.P.underlying t = some (.slice e)) (hz : TI C.P e (.int .i64 0) 1 8) (hn : n ≤ 1000000)
    (k : ∀ b, Lst C ops Q rest ((d, .slice (some ⟨b, 0, none⟩) 0 n) :: fr) (.row e 1 (some ⟨b, 0, none⟩) 0 n [] :: hp)) : Lst C ops Q (⟨some d, .makeSlice t x y, ty, pos, after, none⟩ :: rest) fr hp := by
  intro a w ha
  obtain ⟨i, hi, hz0, hs, hb⟩ := hz
  refine wpList_plain rfl fun K hK => ?_
  unfold Oper.wp
  have hm : (Instr.makeSlice t (.int .i64 0) (.int .i64 (n : Int))).run C.P w = .ok (.slice (some ⟨w.heap.size, 0, none⟩) 0 n) (w.alloc (.cells (ints (List.replicate n 0)).toArray e)) := by
    have h := run_makeSlice (P := C.P) w t e i (.int .i64 0) ht hi hz0 .i64 .i64 0 (n : Int) (by omega) (by omega) (by rw [hs]; simp; omega) (by rw [hb]; omega) (by omega)
    simp only [Int.toNat_natCast, hs, Nat.mul_one] at h
    rw [h, madeCells_ints]
    rfl
  have hr : (execOp a.eval ⟨some d, .makeSlice t x y, ty, pos, after, none⟩).run C.P w = .ok (.value (.slice (some ⟨w.heap.size, 0, none⟩) 0 n)) (w.alloc (.cells (ints (List.replicate n 0)).toArray e)) := by
    simp only [execOp, ha.eval hx, ha.eval hy, Sem.run_bind, hm, Result.andThen_ok, Sem.run_pure]
  rw [hr]
  refine hK _ _ (k w.heap.size _ _ (At.put ?_ (lt_of_blt hd) _))
  have h1 := ha.alloc (.cells (ints (List.replicate n 0)).toArray e)
  have hlen : (ints (List.replicate n 0)).length = n := by rw [ints_zeros, List.length_replicate]
  refine ⟨h1.size, h1.defs, h1.slots, h1.below, h1.base, fun r hr => ?_, ?_⟩
  · rcases List.mem_cons.1 hr with rfl | hr
    · have h2 := h1.own _ (List.mem_cons_self ..)
      exact ⟨by simp, .inr ⟨_, n, _, rfl, h2.1, h2.2, Nat.zero_le _, by unfold maxLen; omega, by rw [List.size_toArray, hlen, Nat.mul_one], by rw [Nat.zero_mul]; rfl⟩⟩
    · exact h1.own r (List.mem_cons_of_mem _ hr)
  · exact h1.apart
variable {r : Nat}
/-! More of rounds. -/
theorem opsR {P : Program} {ops : Array Oper} {Q : Exit → Act → World → Prop} (hQ : ∀ a w, Q .outgrown a w → False) (hops : ∀ (i : Nat) (o : Oper), ops[i]? = some o → ∀ c, o.op ≠ .defer c) : ∀ (l : List Nat) (a : Act) (w : World), wpOps P ops Q l a w → wpOpsIn (Fence.wide.inRound r) 0 P ops Q l a w
  | [], a, w, h => h
  | i :: l, a, w, h => by
    have ih := opsR (P := P) (ops := ops) (Q := Q) hQ hops l
    simp only [wpOps, wpOpsIn] at h ⊢
    cases ho : ops[i]? with
    | none => rw [ho] at h; exact ih _ _ h
    | some o =>
      rw [ho] at h
      dsimp only at h ⊢
      have hno := hops i o ho
      split at h
      · rename_i hw
        rw [if_pos hw]
        rcases h with h | ⟨_, a', w', h⟩
        · refine ⟨fun _ _ => trivial, ?_⟩
          rw [show (Fence.wide.inRound r).round = some r from rfl, Oper.semAt_some r _ _ hno]
          unfold Oper.wp at h
          generalize (execOp a.eval o).run P w = x at h ⊢
          match x, h with
          | .ok (.value v) w', h => exact ih _ _ h
          | .ok .skip w', h => exact ih _ _ h
          | .ok (.defer d) w', h => exact ih _ _ h
          | .ok (.enter f args) w', h =>
            refine ⟨fun hd => by simp [Fence.wide] at hd, (callsIn_round h).mono ?_⟩
            intro e w'' he
            cases e with
            | returned v => exact ih _ _ he
            | panicked ch => exact he
            | outgrown => exact he
          | .ok (.row row args) w', h => exact ⟨fun hd => by simp [Fence.wide] at hd, (rowsIn_wide steps_round h).mono fun v w'' he => ih _ _ he⟩
          | .halt (.panic v) w', h => exact h
        · exact (hQ a' w' h).elim
      · rename_i hw
        rw [if_neg hw]
        exact ⟨fun _ _ => trivial, ih _ _ h⟩
theorem codR_begin {id : Nat} {l : List Oper} {hpS : List Res} (bs : List Dk) (hm : C.P.follows .mixedOrders = true) (n : Nat) (hn : l.length = n) (lst : List Bool) (hl : Array.replicate n false = lst.toArray) (hno : (l.all fun o => match o.op with | .defer _ => false | _ => true) = true) [hs : Drp bs hp hpS] (h : Any C l.toArray Q hpS n lst.toArray fr hp) :
    CodR C r (.region id l.toArray true) Q fr hp := by
  intro a w ha
  refine wpIn_mono (Q := OnlyN Q) (wpIn_region_draw fun t => ?_) ?_
  · refine opsR (fun a w h => h) ?_ _ _ _ ?_
    · intro i o ho c hc
      have hmem : o ∈ l := List.mem_of_getElem? (by simpa using ho)
      have := List.all_eq_true.1 hno o hmem
      rw [hc] at this
      cases this
    · simp only [Region.schedule, hm, Bool.true_or, if_true]
      refine wpAny_sound _ t _ a _ (wpAny_of_held (S := Mem C hpS) _ _ _ _ ?_)
      have h1 := h a _ ha.drew
      rw [← hl] at h1
      simpa [hn] using h1
  · intro e a' w' he
    cases e with
    | normal => exact he
    | _ => exact he.elim
/-- A call of yield, out of the walk of the round. -/
theorem yield_body {P : Program} {N : Nat} {rec : Loop} {W : World} {vs : List Value} {frY frB : List (Nat × Value)} {R : Ending → World → Prop} (hl : W.heap[r]? = some (.loop rec)) (hready : rec.state = .ready) (hn : vs.length = rec.params.size)
    (hslots : At ⟨P, W.heap.size, W, N, []⟩ frY [] { tmps := (rec.params.zip vs.toArray).foldl (fun t (x : Tmp × Value) => t.setIfInBounds x.1 x.2) rec.tmps, defers := [] } W)
    (hassign : ∀ K : Act → World → Prop, Ex ⟨P, W.heap.size, W, N, []⟩ (Exit.then K (fun _ _ _ => False)) .normal frB [] → CodR ⟨P, W.heap.size, W, N, []⟩ r rec.assign (Exit.then K (fun _ _ _ => False)) frY [])
    (hbody : ∀ w1, Below W.heap.size W w1 → W.heap.size ≤ w1.heap.size → CodR ⟨P, w1.heap.size, w1.putObj r (.loop { rec with state := .busy }), N, []⟩ r rec.body (roundPost P r R) frB []) : YieldAt Fence.wide 0 P r vs.toArray W R := by
  refine ⟨_, _, _, _, run_yield hl (by simpa using hn), roundIn_of_wpIn trivial ?_⟩
  refine hassign _ ?_ _ _ hslots
  intro a w ha
  have hlt : r < W.heap.size := (Array.getElem?_eq_some_iff.1 hl).1
  have hl1 : w.heap[r]? = some (.loop rec) := (ha.below.block r hlt).trans hl
  refine ⟨_, run_beginRound hl1 hready, ?_⟩
  refine hbody w ha.below ha.base a _ ⟨ha.size, ha.defs, ha.slots, ?_, ?_, (fun r hr => by cases hr), List.nodup_nil⟩
  · exact Below.refl _ _
  · show w.heap.size ≤ (w.putObj r _).heap.size
    simp
/-- The round goes on. -/
theorem round_goes {P : Program} {N : Nat} {rec : Loop} {W w1 : World} {R : Ending → World → Prop} (hl : W.heap[r]? = some (.loop rec)) (hready : rec.state = .ready) (hpe : rec.pending = none) (hb : Below W.heap.size W w1) (hbs : W.heap.size ≤ w1.heap.size)
    (k : ∀ w', Grew W w' [] → R (.returned (.bool true)) w') : Ex ⟨P, w1.heap.size, w1.putObj r (.loop { rec with state := .busy }), N, []⟩ (roundPost P r R) .normal fr hp := by
  intro a w ha
  have hlt : r < W.heap.size := (Array.getElem?_eq_some_iff.1 hl).1
  have hl2 : w.heap[r]? = some (.loop { rec with state := .busy }) := by
    refine (ha.below.block r (by show r < w1.heap.size; omega)).trans ?_
    exact World.putObj_heap_same (by omega)
  have hr := run_endRound (P := P) none hl2
  refine ⟨_, _, hr, ?_⟩
  refine k _ ⟨?_, (fun r hr => by cases hr), List.nodup_nil⟩
  have hsize := ha.base
  refine ⟨?_, ?_, ?_, ?_, ?_⟩
  · exact ha.below.os.trans hb.os
  · exact ha.below.tape.trans hb.tape
  · exact ha.below.output.trans hb.output
  · have h3 := ha.base
    show W.heap.size ≤ (w.putObj r _).heap.size
    simp only [World.putObj_size]
    have h4 : w1.heap.size ≤ w.heap.size := h3
    omega
  · intro k hk
    by_cases e : k = r
    · subst e
      rw [World.putObj_heap_same (by have h3 : w1.heap.size ≤ w.heap.size := ha.base; omega), hl]
      obtain ⟨st, pe, _, _, _, _, _, _⟩ := rec
      simp only at hready hpe
      subst hready; subst hpe
      rfl
    · rw [World.putObj_heap_other e]
      refine (ha.below.block k (by show k < w1.heap.size; omega)).trans ?_
      rw [World.putObj_heap_other e]
      exact hb.block k hk
/-- The round returns. -/
theorem round_ret {rec : Loop} {R : Ending → World → Prop} (hu : Upd (.blk r (.loop { rec with state := .busy })) (.blk r (.loop { rec with state := .done, pending := some .ret })) hp hp')
    (k : ∀ a w', At C fr hp' a w' → R (.returned (.bool false)) w') : Ex C (roundPost C.P r R) .ret fr hp := by
  intro a w ha
  have hm := hu.mem
  have hb := ha.own _ hm
  have hr := run_endRound (P := C.P) (some .ret) hb.2
  refine ⟨_, _, hr, k a _ ?_⟩
  refine ha.turn hu (by
    refine ⟨rfl, rfl, rfl, by simp, fun k _ hk => World.putObj_heap_other (fun e => hk (by rw [e]; rfl))⟩) ⟨hb.1, ?_⟩ (fun k hk => .inl hk)
  exact World.putObj_heap_same (Array.getElem?_eq_some_iff.1 hb.2).1
theorem cell_lt {w : World} {p : Addr} {v : Value} (h : w.cell? p = some v) : p.block < w.heap.size := by
  unfold World.cell? at h
  rcases Nat.lt_or_ge p.block w.heap.size with h1 | h1
  · exact h1
  · rw [Array.getElem?_eq_none h1] at h
    cases h
theorem yieldAt_mono {P : Program} {args : Array Value} {W : World} {R R' : Ending → World → Prop} (h : YieldAt Fence.wide 0 P r args W R) (hr : ∀ e w', R e w' → R' e w') : YieldAt Fence.wide 0 P r args W R' := by
  obtain ⟨fn, tmps, assign, body, h1, h2⟩ := h
  exact ⟨fn, tmps, assign, body, h1, h2.mono hr⟩
end
end Go.Proofs.YtofkhehcnfiopaaDoor.N
namespace Go.Proofs.YtofkhehcnfiopaaDoor.N
open Go Go.RowKit Go.Proofs
theorem F.ent127 : Enters Tryd.prog 127 := enters_of Tryd.func127 rfl (by kernel_rfl)
theorem ones_c (s : Nat) (hs : s < 16) (w : World) : Calls Tryd.prog 127 #[.int .u8 (s : Int)] w fun e w' => ∃ n : Nat, n ≤ 4 ∧ e = .returned (.int .i64 (n : Int)) ∧ Grew w w' [] := by
  refine enter (N := 6) [(0, .int .u8 (s : Int))] Tryd.func127 rfl Tryd.ntmps127 rfl rfl ?_
  refine cod_seq ?_
  refine cod_region ?_
  refine lst_assign rfl rfl ?_
  refine lst_nil ?_
  refine ex_then ?_
  refine cod_seq ?_
  refine cod_region ?_
  refine lst_move rfl rfl ?_
  refine lst_index_tab (N := 16) (B := 4) rfl rfl rfl Tryd.underlying9 (by kernel_rfl) hs ?_
  intro n4 hn4
  refine lst_convert rfl rfl Tryd.underlying5 Tryd.underlying3 (wrap_i64' _ (by omega) (by omega)) ?_
  refine lst_assign rfl rfl ?_
  refine lst_nil ?_
  refine ex_then ?_
  refine cod_ret ?_
  exact ex_ret rfl (fun a w ha => res_one rfl rfl ha) (fun a w ha => ⟨n4, hn4, rfl, ha.grown (List.nil_sublist _)⟩)

theorem count_c (s : Nat) (hs : s < 16) (w : World) : Calls Tryd.prog 109 #[.int .u8 (s : Int)] w fun e w' => ∃ n : Nat, n ≤ 4 ∧ e = .returned (.int .i64 (n : Int)) ∧ Grew w w' [] := by
  refine enter (N := 5) [(0, .int .u8 (s : Int))] Tryd.func109 rfl Tryd.ntmps109 rfl rfl ?_
  refine cod_seq ?_
  refine cod_region ?_
  refine lst_assign rfl rfl ?_
  refine lst_nil ?_
  refine ex_then ?_
  refine cod_seq ?_
  refine cod_region ?_
  refine lst_move rfl rfl ?_
  refine lst_fn (X := Nat) (vs := [_]) (p := fun n => n ≤ 4) (val := fun n => .int .i64 (n : Int)) (rs := fun _ => []) rfl rfl F.ent127 (fun a w ha => ones_c s hs w) ?_
  intro n hn
  dsimp only [List.nil_append]
  refine lst_assign rfl rfl ?_
  refine lst_nil ?_
  refine ex_then ?_
  refine cod_ret ?_
  exact ex_ret rfl (fun a w ha => res_one rfl rfl ha) (fun a w ha => ⟨n, hn, rfl, ha.grown (List.nil_sublist _)⟩)

theorem sets_c (n : Nat) (w : World) : Calls Tryd.prog 108 #[.int .i64 (n : Int)] w fun e w' => ∃ b : Nat, e = .returned (.func (.func 125) ([] : List Value).toArray [.pointer (some ⟨b, 0, none⟩)].toArray) ∧ Grew w w' [.blk b (.cells [.int .i64 (n : Int)].toArray 3 (0, 0))] := by
  refine enter (N := 4) [(0, .int .i64 (n : Int))] Tryd.func108 rfl Tryd.ntmps108 rfl rfl ?_
  refine cod_seq ?_
  refine cod_region ?_
  refine lst_box rfl rfl ?_
  intro b1
  refine lst_assign rfl rfl ?_
  refine lst_nil ?_
  refine ex_then ?_
  refine cod_seq ?_
  refine cod_region ?_
  refine lst_makeFunc (fs := []) (cs := [_]) rfl rfl rfl ?_
  refine lst_assign rfl rfl ?_
  refine lst_nil ?_
  refine ex_then ?_
  refine cod_ret ?_
  exact ex_ret rfl (fun a w ha => res_one rfl rfl ha) (fun a w ha => ⟨b1, rfl, ha.grown (List.Sublist.refl _)⟩)

end Go.Proofs.YtofkhehcnfiopaaDoor.N
namespace Go.Proofs.YtofkhehcnfiopaaDoor.N
open Go Go.RowKit Go.Proofs
/-- A list that stands for a set of numbers below n. -/
def SetOk (n : Nat) (v : List Nat) : Prop := v.Pairwise (· < ·) ∧ ∀ i ∈ v, i < n
theorem setOk_nil (n : Nat) : SetOk n [] := ⟨.nil, fun i hi => absurd hi List.not_mem_nil⟩
theorem SetOk.snoc {n i : Nat} {v : List Nat} (h : SetOk n v) (hi : i < n) (hv : ∀ j ∈ v, j < i) : SetOk n (v ++ [i]) := by
  refine ⟨List.pairwise_append.2 ⟨h.1, List.pairwise_singleton .., fun a ha b hb => ?_⟩, fun j hj => ?_⟩
  · rw [List.mem_singleton.1 hb]; exact hv a ha
  · rcases List.mem_append.1 hj with h1 | h1
    · exact h.2 j h1
    · rw [List.mem_singleton.1 h1]; exact hi
theorem SetOk.mask {n : Nat} {v : List Nat} (h : SetOk n v) (hn : n ≤ 4) : maskL v < 16 := maskL_lt16 fun i hi => by have := h.2 i hi; omega
/-- Whatever lay from H on lies as it lay. -/
def KeepUp (H : Nat) (w w' : World) : Prop := True ∧ ∀ b, H ≤ b → b < w.heap.size → w'.heap[b]? = w.heap[b]?
theorem KeepUp.below {H : Nat} {w w1 w2 : World} (hs : w.heap.size ≤ w1.heap.size) (hb : Below w.heap.size w w1) (h : KeepUp H w1 w2) : KeepUp H w w2 :=
  ⟨trivial, fun b h1 h2 => (h.2 b h1 (by omega)).trans (hb.block b h2)⟩
theorem KeepUp.after {H : Nat} {w w1 w2 : World} (h : KeepUp H w w1) (hb : Below w1.heap.size w1 w2) : KeepUp H w w2 :=
  ⟨trivial, fun b h1 h2 => (hb.block b (by
    have h3 := h.2 b h1 h2
    rw [Array.getElem?_eq_getElem h2] at h3
    exact (Array.getElem?_eq_some_iff.1 h3).1)).trans (h.2 b h1 h2)⟩
/-- What a call of yield does: it goes on where P does not hold, it stops where P holds. -/
def YSpec (n r H : Nat) (W1 : World) (G : List Nat → Prop) (Jx : List Nat → World → Prop) : Prop :=
  ∀ (v : List Nat) (W : World), SetOk n v → Below H W1 W → H ≤ W.heap.size → YieldAt Fence.wide 0 Tryd.prog r [.int .u8 (maskL v : Nat)].toArray W fun e W' =>
    (e = .returned (.bool true) ∧ Grew W W' [] ∧ ¬ G v) ∨ (e = .returned (.bool false) ∧ G v ∧ Jx v W' ∧ KeepUp H W W')
abbrev fromV (yb nb fb : Nat) : Value := .func (.func 126) ([] : List Value).toArray [.pointer (some ⟨yb, 0, none⟩), .pointer (some ⟨nb, 0, none⟩), .pointer (some ⟨fb, 0, none⟩)].toArray
abbrev yieldV (r : Nat) : Value := .func (.yield r) #[] #[]
/-- The iterator's own variables. -/
structure ItS (n r H yb nb fb : Nat) (W1 w : World) : Prop where
  old : Below H W1 w
  size : H ≤ w.heap.size
  hy : H ≤ yb
  hf : H ≤ fb
  y : w.cell? ⟨yb, 0, none⟩ = some (yieldV r)
  n : w.cell? ⟨nb, 0, none⟩ = some (.int .i64 (n : Int))
  f : w.cell? ⟨fb, 0, none⟩ = some (fromV yb nb fb)
theorem ItS.later {n r H yb nb fb : Nat} {W1 w w' : World} (h : ItS n r H yb nb fb W1 w) (hb : Below w.heap.size w w') : ItS n r H yb nb fb W1 w' := by
  have hc : ∀ p v, w.cell? p = some v → w'.cell? p = some v := fun p v hv => (hb.cell (cell_lt hv)).trans hv
  exact ⟨h.old.trans (hb.mono h.size), Nat.le_trans h.size hb.size, h.hy, h.hf, hc _ _ h.y, hc _ _ h.n, hc _ _ h.f⟩
/-- How a walk through sets ends. -/
def FromR (n : Nat) (H : Nat) (G : List Nat → Prop) (Jx : List Nat → World → Prop) (pre : List Nat) (l : List (List Nat)) (w : World) (e : Ending) (w' : World) : Prop :=
  (e = .returned (.bool true) ∧ Grew w w' [] ∧ ∀ v ∈ l, ¬ G (pre ++ v)) ∨
  (e = .returned (.bool false) ∧ ∃ (i : Nat) (v : List Nat), l[i]? = some v ∧ G (pre ++ v) ∧ (∀ (j : Nat) (u : List Nat), j < i → l[j]? = some u → ¬ G (pre ++ u)) ∧ Jx (pre ++ v) w' ∧ KeepUp H w w')
/-- What is known where a walk was stopped. -/
def StopR (H : Nat) (G : List Nat → Prop) (Jx : List Nat → World → Prop) (pre : List Nat) (l : List (List Nat)) (w w' : World) : Prop :=
  ∃ (i : Nat) (v : List Nat), l[i]? = some v ∧ G (pre ++ v) ∧ (∀ (j : Nat) (u : List Nat), j < i → l[j]? = some u → ¬ G (pre ++ u)) ∧ Jx (pre ++ v) w' ∧ KeepUp H w w'
theorem stop_map {H : Nat} {G : List Nat → Prop} {Jx : List Nat → World → Prop} {pre : List Nat} {x : Nat} {l0 l : List (List Nat)} {w w' : World} (h0 : ∀ v ∈ l0, ¬ G (pre ++ v)) (h : StopR H G Jx (pre ++ [x]) l w w') (rest : List (List Nat)) :
    StopR H G Jx pre (l0 ++ l.map (x :: ·) ++ rest) w w' := by
  obtain ⟨i, v, h1, h2, h3, h4, h5⟩ := h
  have hi : i < l.length := (List.getElem?_eq_some_iff.1 h1).1
  have e : pre ++ x :: v = pre ++ [x] ++ v := by simp
  refine ⟨l0.length + i, x :: v, ?_, by rw [e]; exact h2, ?_, by rw [e]; exact h4, h5⟩
  · rw [List.append_assoc, List.getElem?_append_right (by omega), Nat.add_sub_cancel_left, List.getElem?_append_left (by rw [List.length_map]; exact hi), List.getElem?_map, h1]
    rfl
  · intro j u hj hu
    rcases Nat.lt_or_ge j l0.length with h6 | h6
    · rw [List.append_assoc, List.getElem?_append_left h6] at hu
      exact h0 u (List.mem_of_getElem? hu)
    · rw [List.append_assoc, List.getElem?_append_right h6, List.getElem?_append_left (by rw [List.length_map]; omega), List.getElem?_map] at hu
      obtain ⟨u', hu', rfl⟩ := Option.map_eq_some_iff.1 hu
      have := h3 (j - l0.length) u' (by omega) hu'
      rw [show pre ++ x :: u' = pre ++ [x] ++ u' by simp]
      exact this
theorem chs_split {n k f i : Nat} (h : f ≤ i) (hi : i < n) : ∃ rest, chsL n (k + 1) f = chsT n k f i ++ (chsL n k (i + 1)).map (i :: ·) ++ rest := by
  rw [← chsT_succ h]
  unfold chsL chsT
  have e : n - f = (i + 1 - f) + (n - (i + 1)) := by omega
  rw [e, ← List.range'_append_1, List.flatMap_append]
  exact ⟨_, rfl⟩
end Go.Proofs.YtofkhehcnfiopaaDoor.N
namespace Go.Proofs.YtofkhehcnfiopaaDoor.N
open Go Go.RowKit Go.Proofs
theorem F.ent126 : Enters Tryd.prog 126 := enters_of Tryd.func126 rfl (by kernel_rfl)
theorem F.one162 : One Tryd.prog 162 := ⟨by unfold aggB; rw [Tryd.underlying162], by rw [Tryd.underlying162]; simp⟩
theorem F.one163 : One Tryd.prog 163 := ⟨by unfold aggB; rw [Tryd.underlying163], by rw [Tryd.underlying163]; simp⟩
theorem from_0 (pre : List Nat) (f : Nat) (n r H yb nb fb : Nat) (W1 : World) (G : List Nat → Prop) (Jx : List Nat → World → Prop) (hn : n ≤ 4) (hJ : ∀ v W W', Jx v W → Below W.heap.size W W' → Jx v W') (hY : YSpec n r H W1 G Jx) (hp : SetOk n pre) (w : World) (hI : ItS n r H yb nb fb W1 w) : Calls Tryd.prog 126 #[.int .u8 (maskL pre : Nat), .int .i64 (f : Int), .int .i64 0, .pointer (some ⟨yb, 0, none⟩), .pointer (some ⟨nb, 0, none⟩), .pointer (some ⟨fb, 0, none⟩)] w (FromR n H G Jx pre (chsL n 0 f) w) := by
  refine enter (N := 33) [(0, .int .u8 (maskL pre : Nat)), (1, .int .i64 (f : Int)), (2, .int .i64 0), (3, .pointer (some ⟨yb, 0, none⟩)), (4, .pointer (some ⟨nb, 0, none⟩)), (5, .pointer (some ⟨fb, 0, none⟩))] Tryd.func126 rfl Tryd.ntmps126 rfl rfl ?_
  refine cod_seq ?_
  refine cod_region ?_
  refine lst_assign rfl rfl ?_
  refine lst_nil ?_
  refine ex_then ?_
  refine cod_seq ?_
  refine cod_seq ?_
  refine cod_region ?_
  refine lst_move rfl rfl ?_
  refine lst_int rfl rfl rfl bin_eql ?_
  refine lst_nil ?_
  refine ex_then ?_
  refine cod_cond_true rfl ?_
  refine cod_seq ?_
  refine cod_regionW ?_
  refine lstW_yld rfl rfl (yld_load_at (v := yieldV r) rfl F.one162 (fun a w' ha => ha.old hI.y (cell_lt hI.y))) ?_
  refine lstW_yld rfl rfl (yld_move rfl) ?_
  refine lstW_yield (hpT := []) (vs := [_]) (M := fun w' => G pre ∧ Jx pre w' ∧ KeepUp H w w') (¬ G pre) rfl rfl rfl (fun a w' ha => yieldAt_mono (hY pre w' hp (hI.old.trans (ha.below.mono hI.size)) (Nat.le_trans hI.size ha.base)) (fun e w2 h => ?_)) (fun hnG => ?_) (fun w2 hM => ?_)
  · rcases h with ⟨h1, h2, h3⟩ | ⟨h1, h2, h3, h4⟩
    · exact .inl ⟨h1, h3, ha.more h2⟩
    · exact .inr ⟨h1, h2, h3, h4.below ha.base ha.below⟩
  · skip
    refine lstW_yld rfl rfl (yld_assign rfl) ?_
    refine lstW_nil ?_
    refine ex_then ?_
    refine cod_ret ?_
    refine ex_then_ret ?_
    exact ex_ret rfl (fun a w ha => res_one rfl rfl ha) (fun a w' ha => .inl ⟨rfl, ha.grown (List.nil_sublist _), fun v hv => by rw [List.mem_singleton.1 hv, List.append_nil]; exact hnG⟩)
  · skip
    refine lstW_yld rfl rfl (yld_assign rfl) ?_
    refine lstW_nil ?_
    refine ex_then ?_
    refine cod_ret ?_
    refine ex_then_ret ?_
    exact ex_ret rfl (fun a w ha => res_one rfl rfl ha) (fun a w' ha => .inr ⟨rfl, 0, [], rfl, by rw [List.append_nil]; exact hM.1, fun j u hj => absurd hj (Nat.not_lt_zero _), by rw [List.append_nil]; exact hJ _ _ _ hM.2.1 ha.below, hM.2.2.after ha.below⟩)

theorem from_s (pre : List Nat) (f k : Nat) (n r H yb nb fb : Nat) (W1 : World) (G : List Nat → Prop) (Jx : List Nat → World → Prop) (hn : n ≤ 4) (hJ : ∀ v W W', Jx v W → Below W.heap.size W W' → Jx v W') (hY : YSpec n r H W1 G Jx) (hf : f ≤ 5) (hk : k + 1 ≤ 5) (hp : SetOk n pre) (hpf : ∀ j ∈ pre, j < f) (ih : ∀ (f : Nat) (pre : List Nat) (w : World), f ≤ 5 → SetOk n pre → (∀ j ∈ pre, j < f) → ItS n r H yb nb fb W1 w → Calls Tryd.prog 126 #[.int .u8 (maskL pre : Nat), .int .i64 (f : Int), .int .i64 (k : Int), .pointer (some ⟨yb, 0, none⟩), .pointer (some ⟨nb, 0, none⟩), .pointer (some ⟨fb, 0, none⟩)] w (FromR n H G Jx pre (chsL n k f) w)) (w : World) (hI : ItS n r H yb nb fb W1 w) : Calls Tryd.prog 126 #[.int .u8 (maskL pre : Nat), .int .i64 (f : Int), .int .i64 ((k + 1 : Nat) : Int), .pointer (some ⟨yb, 0, none⟩), .pointer (some ⟨nb, 0, none⟩), .pointer (some ⟨fb, 0, none⟩)] w (FromR n H G Jx pre (chsL n (k + 1) f) w) := by
  refine enter (N := 33) [(0, .int .u8 (maskL pre : Nat)), (1, .int .i64 (f : Int)), (2, .int .i64 ((k + 1 : Nat) : Int)), (3, .pointer (some ⟨yb, 0, none⟩)), (4, .pointer (some ⟨nb, 0, none⟩)), (5, .pointer (some ⟨fb, 0, none⟩))] Tryd.func126 rfl Tryd.ntmps126 rfl rfl ?_
  refine cod_seq ?_
  refine cod_region ?_
  refine lst_assign rfl rfl ?_
  refine lst_nil ?_
  refine ex_then ?_
  refine cod_seq ?_
  refine cod_seq ?_
  refine cod_region ?_
  refine lst_move rfl rfl ?_
  refine lst_int rfl rfl rfl bin_eql ?_
  refine lst_nil ?_
  refine ex_then ?_
  refine cod_cond_false rfl ?_
  refine cod_skip ?_
  refine ex_then ?_
  refine cod_seq ?_
  refine cod_seq ?_
  refine cod_region ?_
  refine lst_move rfl rfl ?_
  refine lst_assign rfl rfl ?_
  refine lst_nil ?_
  refine ex_then ?_
  refine cod_block ?_
  refine cod_loop (G := Nat) (fun i => f ≤ i ∧ i ≤ max f n ∧ ∀ v ∈ chsT n k f i, ¬ G (pre ++ v)) (fun i => n - i) (fun i => [(0, .int .u8 (maskL pre : Nat)), (2, .int .i64 ((k + 1 : Nat) : Int)), (3, .pointer (some ⟨yb, 0, none⟩)), (4, .pointer (some ⟨nb, 0, none⟩)), (5, .pointer (some ⟨fb, 0, none⟩)), (10, .int .i64 (i : Int))]) (fun i => []) f ⟨Nat.le_refl _, Nat.le_max_left _ _, fun v hv => absurd hv (by rw [chsT_self]; exact List.not_mem_nil)⟩ (by repeat (first | exact Sub.nil _ | refine Sub.cons rfl ?_)) (by repeat (first | exact List.Sublist.refl _ | exact List.nil_sublist _ | refine List.Sublist.cons_cons _ ?_ | refine List.Sublist.cons _ ?_)) ?_
  intro i hi
  (try dsimp only at hi ⊢)
  refine cod_seq ?_
  refine cod_seq ?_
  refine cod_region ?_
  refine lst_move rfl rfl ?_
  refine lst_load_at (v := .int .i64 (n : Int)) rfl rfl F.one3 (fun a w' ha => ha.old hI.n (cell_lt hI.n)) ?_
  refine lst_int rfl rfl rfl bin_lss ?_
  refine lst_nil ?_
  refine ex_then ?_
  refine cod_cond_dec rfl (fun hc1 => ?_) (fun hc1 => ?_)
  · skip
    have hin : i < n := by omega
    have hm8 : maskL pre < 256 := by have := hp.mask hn; omega
    refine cod_skip ?_
    refine ex_then ?_
    refine cod_seq ?_
    refine cod_block ?_
    refine cod_seq ?_
    refine anyG_start (fun w' => w'.cell? ⟨fb, 0, none⟩ = some (fromV yb nb fb)) F.follows 11 rfl [false, false, false, false, false, false, false, false, false, false, false] rfl (fun a w' ha => ha.old hI.f (cell_lt hI.f)) ?_
    refine anyG_take (listed' := [true, false, false, false, false, false, false, false, false, false, false].toArray) 0 rfl rfl rfl (by kernel_rfl) (by kernel_rfl) (by kernel_rfl) (fun w' hS => yld_load_at (v := fromV yb nb fb) rfl F.one163 (fun a w'' ha => ha.old hS (cell_lt hS))) rfl ?_
    refine anyG_take (listed' := [true, true, false, false, false, false, false, false, false, false, false].toArray) 1 rfl rfl rfl (by kernel_rfl) (by kernel_rfl) (by kernel_rfl) (fun w' hS => yld_move rfl) rfl ?_
    refine anyG_take (listed' := [true, true, true, false, false, false, false, false, false, false, false].toArray) 2 rfl rfl rfl (by kernel_rfl) (by kernel_rfl) (by kernel_rfl) (fun w' hS => yld_move rfl) rfl ?_
    refine anyG_take (listed' := [true, true, true, true, false, false, false, false, false, false, false].toArray) 3 rfl rfl rfl (by kernel_rfl) (by kernel_rfl) (by kernel_rfl) (fun w' hS => yld_shl rfl rfl (by omega) (shl_u8 (by omega))) rfl ?_
    refine anyG_take (listed' := [true, true, true, true, true, false, false, false, false, false, false].toArray) 4 rfl rfl rfl (by kernel_rfl) (by kernel_rfl) (by kernel_rfl) (fun w' hS => yld_int rfl rfl (fun w => bin_or w (r := ((maskL (pre ++ [i]) : Nat) : Int)) (by rw [maskL_snoc]; exact u8_or _ _ hm8 (shl8_lt (by omega))))) rfl ?_
    refine anyG_take (listed' := [true, true, true, true, true, true, false, false, false, false, false].toArray) 5 rfl rfl rfl (by kernel_rfl) (by kernel_rfl) (by kernel_rfl) (fun w' hS => yld_move rfl) rfl ?_
    refine anyG_take (listed' := [true, true, true, true, true, true, true, false, false, false, false].toArray) 6 rfl rfl rfl (by kernel_rfl) (by kernel_rfl) (by kernel_rfl) (fun w' hS => yld_int rfl rfl (fun w => bin_add w (wrap_i64' _ (by omega) (by omega)))) rfl ?_
    refine anyG_take (listed' := [true, true, true, true, true, true, true, true, false, false, false].toArray) 7 rfl rfl rfl (by kernel_rfl) (by kernel_rfl) (by kernel_rfl) (fun w' hS => yld_move rfl) rfl ?_
    refine anyG_take (listed' := [true, true, true, true, true, true, true, true, true, false, false].toArray) 8 rfl rfl rfl (by kernel_rfl) (by kernel_rfl) (by kernel_rfl) (fun w' hS => yld_int rfl rfl (fun w => bin_sub w (show IntKind.i64.wrap (((k + 1 : Nat) : Int) - 1) = ((k : Nat) : Int) from by rw [wrap_i64' _ (by omega) (by omega)]; omega))) rfl ?_
    refine anyG_one (listed' := [true, true, true, true, true, true, true, true, true, true, false].toArray) 9 (by kernel_rfl) rfl rfl ?_
    refine lst_call_two (hpT := []) (first := []) (cap := [.pointer (some ⟨yb, 0, none⟩), .pointer (some ⟨nb, 0, none⟩), .pointer (some ⟨fb, 0, none⟩)]) (vs := [_, _, _]) (vT := .bool true) (vF := .bool false) (M := fun w' => StopR H G Jx (pre ++ [i]) (chsL n k (i + 1)) w w') (∀ v ∈ chsL n k (i + 1), ¬ G ((pre ++ [i]) ++ v)) rfl rfl rfl F.ent126 (fun a w' ha => (ih (i + 1) (pre ++ [i]) w' (by omega) (hp.snoc (by omega) (fun j hj => by have := hpf j hj; omega)) (fun j hj => by rcases List.mem_append.1 hj with h1 | h1; exact Nat.lt_of_lt_of_le (hpf j h1) (by omega); rw [List.mem_singleton.1 h1]; omega) (hI.later ha.below)).mono (fun e w2 h => ?_)) (fun hnG => ?_) (fun w2 hM => ?_)
    · rcases h with ⟨h1, h2, h3⟩ | ⟨h1, i', v, h2, h3, h4, h5, h6⟩
      · exact .inl ⟨h1, h3, ha.more h2⟩
      · exact .inr ⟨h1, i', v, h2, h3, h4, h5, h6.below ha.base ha.below⟩
    · skip
      refine lst_nil ?_
      refine exG_next rfl (fun a w' ha => ha.old hI.f (cell_lt hI.f)) ?_
      refine anyG_take (listed' := [true, true, true, true, true, true, true, true, true, true, true].toArray) 10 rfl rfl rfl (by kernel_rfl) (by kernel_rfl) (by kernel_rfl) (fun w' hS => yld_not rfl) rfl ?_
      refine anyG_done rfl (by kernel_rfl) ?_
      refine ex_then ?_
      refine cod_cond_false rfl ?_
      refine cod_skip ?_
      refine ex_block_normal ?_
      refine ex_then ?_
      refine cod_region ?_
      refine lst_move rfl rfl ?_
      refine lst_int rfl rfl rfl (fun w => bin_add w (wrap_i64' _ (by omega) (by omega))) ?_
      refine lst_assign rfl rfl ?_
      refine lst_nil ?_
      refine ex_round (i + 1) ⟨by omega, by have := Nat.le_max_right f n; omega, fun v hv => by
        rw [chsT_succ hi.1] at hv
        rcases List.mem_append.1 hv with h1 | h1
        · exact hi.2.2 v h1
        · obtain ⟨u, hu, rfl⟩ := List.mem_map.1 h1
          rw [show pre ++ i :: u = (pre ++ [i]) ++ u by simp]
          exact hnG u hu⟩ (by (try dsimp only); omega) (by repeat (first | exact Sub.nil _ | refine Sub.cons rfl ?_)) (by repeat (first | exact List.Sublist.refl _ | exact List.nil_sublist _ | refine List.Sublist.cons_cons _ ?_ | refine List.Sublist.cons _ ?_))
    · skip
      have hfb2 : w2.cell? ⟨fb, 0, none⟩ = some (fromV yb nb fb) := by
        obtain ⟨_, _, _, _, _, _, h6⟩ := hM
        exact (World.cell?_of_block (h6.2 fb hI.hf (cell_lt hI.f))).trans hI.f
      refine lst_nil ?_
      refine exG_next rfl (fun a w' ha => ha.old hfb2 (cell_lt hfb2)) ?_
      refine anyG_take (listed' := [true, true, true, true, true, true, true, true, true, true, true].toArray) 10 rfl rfl rfl (by kernel_rfl) (by kernel_rfl) (by kernel_rfl) (fun w' hS => yld_not rfl) rfl ?_
      refine anyG_done rfl (by kernel_rfl) ?_
      refine ex_then ?_
      refine cod_cond_true rfl ?_
      refine cod_seq ?_
      refine cod_region ?_
      refine lst_assign rfl rfl ?_
      refine lst_nil ?_
      refine ex_then ?_
      refine cod_ret ?_
      refine ex_block_ret ?_
      refine ex_then_ret ?_
      refine ex_then_ret ?_
      refine ex_block_ret ?_
      refine ex_then_ret ?_
      exact ex_ret rfl (fun a w ha => res_one rfl rfl ha) (fun a w' ha => .inr ⟨rfl, by
        obtain ⟨rest, hrest⟩ := chs_split (k := k) hi.1 hin
        rw [hrest]
        obtain ⟨i', v, h1, h2, h3, h4, h5⟩ := stop_map hi.2.2 hM rest
        exact ⟨i', v, h1, h2, h3, hJ _ _ _ h4 ha.below, h5.after ha.below⟩⟩)
  · skip
    refine cod_exit ?_
    refine ex_then_exit ?_
    refine ex_then_exit ?_
    refine ex_block_exit ?_
    refine ex_then ?_
    refine cod_seq ?_
    refine cod_region ?_
    refine lst_assign rfl rfl ?_
    refine lst_nil ?_
    refine ex_then ?_
    refine cod_ret ?_
    exact ex_ret rfl (fun a w ha => res_one rfl rfl ha) (fun a w' ha => .inl ⟨rfl, ha.grown (List.nil_sublist _), fun v hv => hi.2.2 v (by rw [chsT_end (i := i) (by omega)]; exact hv)⟩)

theorem from_c (n r H yb nb fb : Nat) (W1 : World) (G : List Nat → Prop) (Jx : List Nat → World → Prop) (hn : n ≤ 4) (hJ : ∀ v W W', Jx v W → Below W.heap.size W W' → Jx v W') (hY : YSpec n r H W1 G Jx) : ∀ (k : Nat), k ≤ 5 → ∀ (f : Nat) (pre : List Nat) (w : World), f ≤ 5 → SetOk n pre → (∀ j ∈ pre, j < f) → ItS n r H yb nb fb W1 w → Calls Tryd.prog 126 #[.int .u8 (maskL pre : Nat), .int .i64 (f : Int), .int .i64 (k : Int), .pointer (some ⟨yb, 0, none⟩), .pointer (some ⟨nb, 0, none⟩), .pointer (some ⟨fb, 0, none⟩)] w (FromR n H G Jx pre (chsL n k f) w)
  | 0, _, f, pre, w, _, hp, _, hI => from_0 pre f n r H yb nb fb W1 G Jx hn hJ hY hp w hI
  | k + 1, hk, f, pre, w, hf, hp, hpf, hI => from_s pre f k n r H yb nb fb W1 G Jx hn hJ hY hf hk hp hpf (from_c n r H yb nb fb W1 G Jx hn hJ hY k (by omega)) w hI
end Go.Proofs.YtofkhehcnfiopaaDoor.N
namespace Go.Proofs.YtofkhehcnfiopaaDoor.N
open Go Go.RowKit Go.Proofs
theorem F.ti163 : TI Tryd.prog 163 (.nilFunc) 1 8 := TI.of (by kernel_rfl)
theorem it_c (n r nb : Nat) (G : List Nat → Prop) (Jx : List Nat → World → Prop) (hn : n ≤ 4) (hJ : ∀ v W W', Jx v W → Below W.heap.size W W' → Jx v W') (w : World) (hnb : w.cell? ⟨nb, 0, none⟩ = some (.int .i64 (n : Int))) (hY : YSpec n r w.heap.size w G Jx) : Calls Tryd.prog 125 #[yieldV r, .pointer (some ⟨nb, 0, none⟩)] w fun e w' => (∃ v, e = .returned v) ∧ (((∀ k, k ≤ n → ∀ v ∈ chsL n k 0, ¬ G v) ∧ Grew w w' []) ∨ ∃ W, FewS n G W ∧ SetOk n W ∧ Jx W w') := by
  refine enter (N := 16) [(0, yieldV r), (1, .pointer (some ⟨nb, 0, none⟩))] Tryd.func125 rfl Tryd.ntmps125 rfl rfl ?_
  refine cod_seq ?_
  refine cod_region ?_
  refine lst_box rfl rfl ?_
  intro b2
  refine lst_nil ?_
  refine ex_then ?_
  refine cod_seq ?_
  refine cod_region ?_
  refine lst_alloc rfl F.ti163 ?_
  intro b3
  refine lst_nil ?_
  refine ex_then ?_
  refine cod_seq ?_
  refine cod_region ?_
  refine lst_makeFunc (fs := []) (cs := [_, _, _]) rfl rfl rfl ?_
  refine lst_store rfl rfl F.ti163 rfl ?_
  refine lst_nil ?_
  refine ex_then ?_
  refine cod_seq ?_
  refine cod_region ?_
  refine lst_load_at (v := .int .i64 (n : Int)) rfl rfl F.one3 (fun a w' ha => ha.old hnb (cell_lt hnb)) ?_
  refine lst_int rfl rfl rfl (fun w => bin_add w (wrap_i64' _ (by omega) (by omega))) ?_
  refine lst_move rfl rfl ?_
  refine lst_nil ?_
  refine ex_then ?_
  refine cod_block ?_
  refine cod_loop (G := Nat) (fun k => k ≤ n + 1 ∧ ∀ j, j < k → ∀ v ∈ chsL n j 0, ¬ G v) (fun k => n + 1 - k) (fun k => [(3, .pointer (some ⟨b3, 0, none⟩)), (7, .int .i64 ((n : Int) + 1)), (8, .int .i64 (k : Int))]) (fun k => .blk b3 (.cells [fromV b2 nb b3].toArray 163 (0, 0)) :: [.blk b2 (.cells [yieldV r].toArray 162 (0, 0))]) 0 ⟨Nat.zero_le _, fun j hj => absurd hj (Nat.not_lt_zero _)⟩ (by repeat (first | exact Sub.nil _ | refine Sub.cons rfl ?_)) (by repeat (first | exact List.Sublist.refl _ | exact List.nil_sublist _ | refine List.Sublist.cons_cons _ ?_ | refine List.Sublist.cons _ ?_)) ?_
  intro k hk
  (try dsimp only at hk ⊢)
  refine cod_seq ?_
  refine cod_region ?_
  refine lst_int rfl rfl rfl bin_lss ?_
  refine lst_nil ?_
  refine ex_then ?_
  refine cod_seq ?_
  refine cod_cond_dec rfl (fun hc0 => ?_) (fun hc0 => ?_)
  · skip
    have hkn : k ≤ n := by omega
    refine cod_skip ?_
    refine ex_then ?_
    refine cod_seq ?_
    refine cod_block ?_
    refine cod_seq ?_
    refine cod_region ?_
    refine lst_move rfl rfl ?_
    refine lst_assign rfl rfl ?_
    refine lst_nil ?_
    refine ex_then ?_
    refine cod_seq ?_
    refine cod_region ?_
    refine lst_load rfl rfl F.one163 ?_
    refine lst_move rfl rfl ?_
    refine lst_call_two (hpT := .blk b3 (.cells [fromV b2 nb b3].toArray 163 (0, 0)) :: [.blk b2 (.cells [yieldV r].toArray 162 (0, 0))]) (first := []) (cap := [.pointer (some ⟨b2, 0, none⟩), .pointer (some ⟨nb, 0, none⟩), .pointer (some ⟨b3, 0, none⟩)]) (vs := [_, _, _]) (vT := .bool true) (vF := .bool false) (M := fun w' => StopR w.heap.size G Jx [] (chsL n k 0) w w') (∀ v ∈ chsL n k 0, ¬ G ([] ++ v)) rfl rfl rfl F.ent126 (fun a w' ha => (from_c n r w.heap.size b2 nb b3 w G Jx hn hJ hY k (by omega) 0 [] w' (by omega) (setOk_nil n) (fun j hj => absurd hj List.not_mem_nil) (⟨ha.below, ha.base, (ha.own _ (InB.mem (b := b2))).1, (ha.own _ (InB.mem (b := b3))).1, cell_of_blk (ha.mem_blk (InB.mem (b := b2))) rfl, ha.old hnb (cell_lt hnb), cell_of_blk (ha.mem_blk (InB.mem (b := b3))) rfl⟩ : ItS n r w.heap.size b2 nb b3 w w')).mono (fun e w2 h => ?_)) (fun hnG => ?_) (fun w2 hM => ?_)
    · rcases h with ⟨h1, h2, h3⟩ | ⟨h1, i', v, h2, h3, h4, h5, h6⟩
      · exact .inl ⟨h1, h3, ha.more h2⟩
      · exact .inr ⟨h1, i', v, h2, h3, h4, h5, h6.below ha.base ha.below⟩
    · skip
      refine lst_not rfl rfl ?_
      refine lst_nil ?_
      refine ex_then ?_
      refine cod_cond_false rfl ?_
      refine cod_skip ?_
      refine ex_block_normal ?_
      refine ex_then ?_
      refine cod_region ?_
      refine lst_int rfl rfl rfl (fun w => bin_add w (wrap_i64' _ (by omega) (by omega))) ?_
      refine lst_move rfl rfl ?_
      refine lst_nil ?_
      refine ex_round (k + 1) ⟨by omega, fun j hj v hv => by
        rcases Nat.lt_succ_iff_lt_or_eq.1 hj with h1 | rfl
        · exact hk.2 j h1 v hv
        · exact hnG v hv⟩ (by (try dsimp only); omega) (by repeat (first | exact Sub.nil _ | refine Sub.cons rfl ?_)) (by repeat (first | exact List.Sublist.refl _ | exact List.nil_sublist _ | refine List.Sublist.cons_cons _ ?_ | refine List.Sublist.cons _ ?_))
    · skip
      refine lst_not rfl rfl ?_
      refine lst_nil ?_
      refine ex_then ?_
      refine cod_cond_true rfl ?_
      refine cod_ret ?_
      refine ex_block_ret ?_
      refine ex_then_ret ?_
      refine ex_then_ret ?_
      refine ex_block_ret ?_
      exact ex_ret rfl (fun a w ha => res_none rfl ha) (fun a w' ha => ⟨⟨_, rfl⟩, .inr (by
        obtain ⟨i', v, h1, h2, h3, h4, _⟩ := hM
        exact ⟨v, ⟨k, i', h1, h2, ⟨fun j u hj hu => hk.2 j hj u hu, h3⟩⟩, ⟨chs_sorted (List.mem_of_getElem? h1), fun i hi => ((chs_mem (List.mem_of_getElem? h1)).2 i hi).2⟩, hJ _ _ _ h4 ha.below⟩)⟩)
  · skip
    refine cod_exit ?_
    refine ex_then_exit ?_
    refine ex_then_exit ?_
    refine ex_block_exit ?_
    exact ex_end rfl (fun a w ha => res_none rfl ha) (fun a w' ha => ⟨⟨_, rfl⟩, .inl ⟨fun j hj => hk.2 j (by omega), ha.grown (List.nil_sublist _)⟩⟩)

end Go.Proofs.YtofkhehcnfiopaaDoor.N
