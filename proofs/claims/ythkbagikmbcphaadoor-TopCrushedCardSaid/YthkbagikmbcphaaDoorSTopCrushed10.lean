/- Parts of the walk of the law TopCrushed: T22, RowK. -/
import Derived.Test.YthkbagikmbcphaaDoorSTopCrushed09
import Derived.Test.YthkbagikmbcphaaDoorProg
import Derived.Test.YthkbagikmbcphaaDoorSTopCrushed00
import Derived.Test.YthkbagikmbcphaaDoorSTopCrushed01
import Derived.Test.YthkbagikmbcphaaDoorSTopCrushed02
import Derived.Test.YthkbagikmbcphaaDoorRows
import Derived.ChangeSame
import Derived.ChangeVars
import Derived.JoinedOf
import Derived.RowKit
import Derived.RowKitTokens
import Derived.LaidLaws
import Derived.LaidHandle
import Derived.Stop.Joined
import Derived.ProofKit
import Derived.SizedLaws
import Derived.OpenShut
import Derived.SevenTiedAt
import Derived.Conc.Holds
namespace Go.Proofs.YthkbagikmbcphaaDoor.N
open Go Go.RowKit Go.Proofs
theorem F.ent10 : Enters Tryd.prog 10 := enters_of Tryd.func10 rfl (by kernel_rfl)
theorem F.ent11 : Enters Tryd.prog 11 := enters_of Tryd.func11 rfl (by kernel_rfl)
theorem F.ent12 : Enters Tryd.prog 12 := enters_of Tryd.func12 rfl (by kernel_rfl)
theorem F.ent13 : Enters Tryd.prog 13 := enters_of Tryd.func13 rfl (by kernel_rfl)
theorem F.ent14 : Enters Tryd.prog 14 := enters_of Tryd.func14 rfl (by kernel_rfl)
theorem F.ent4 : Enters Tryd.prog 4 := enters_of Tryd.func4 rfl (by kernel_rfl)
theorem F.ent5 : Enters Tryd.prog 5 := enters_of Tryd.func5 rfl (by kernel_rfl)
theorem F.ent7 : Enters Tryd.prog 7 := enters_of Tryd.func7 rfl (by kernel_rfl)
theorem F.ent8 : Enters Tryd.prog 8 := enters_of Tryd.func8 rfl (by kernel_rfl)
theorem F.ent9 : Enters Tryd.prog 9 := enters_of Tryd.func9 rfl (by kernel_rfl)
theorem awake_c  (w : World) (hE : w.cell? ⟨0, 0, none⟩ = some (iT 104)) : Calls Tryd.prog 10 #[] w fun e w' => e = .returned (.bool true) ∧ Grew w w' [] := by
  refine enter (N := 44) [] Tryd.func10 rfl Tryd.ntmps10 rfl rfl ?_
  refine cod_seq ?_
  refine cod_region ?_
  refine lst_assign rfl rfl ?_
  refine lst_nil ?_
  refine ex_then ?_
  refine cod_seq ?_
  refine cod_region ?_
  refine lst_struct (vs := [(0, _), (1, _)]) (l' := [_, _, _, _]) rfl rfl F.ti56 F.pl56 (.cons rfl rfl (.cons rfl rfl (.nil _))) rfl ?_
  refine lst_litN (vs := [(0, _)]) [.int .i64 (-1), .int .i64 30, .int .i64 0, .int .i64 0] rfl rfl Tryd.underlying25 F.ti56 rfl rfl rfl (Lit.agg rfl rfl) ?_
  intro b8
  refine lst_struct (vs := [(2, _), (3, _)]) (l' := [_, _, _, _]) rfl rfl F.ti59 F.pl59 (.cons rfl rfl (.cons rfl rfl (.nil _))) rfl ?_
  refine lst_litN (vs := [(0, _)]) [.int .i64 0, .int .i64 0, .int .i64 24, .int .i64 1] rfl rfl Tryd.underlying26 F.ti59 rfl rfl rfl (Lit.agg rfl rfl) ?_
  intro b10
  refine lst_struct (vs := [(0, _), (1, _)]) (l' := [_, _]) rfl rfl F.ti28 F.pl28 (.cons rfl rfl (.cons rfl rfl (.nil _))) rfl ?_
  refine lst_alloc rfl F.ti28 ?_
  intro b1
  refine lst_store rfl rfl F.ti28 rfl ?_
  refine lst_nil ?_
  refine ex_then ?_
  refine cod_seq ?_
  refine cod_region ?_
  refine lst_loadN rfl rfl F.agg28 F.ti28 ?_
  refine lst_fn0 (v := .tuple #[.agg [.int .i64 23, .int .i64 25].toArray, .int .i64 0]) (vs := [_, _]) rfl rfl F.ent7 (fun a w ha => (Weight_c (some ⟨b8, 0, none⟩) (some ⟨b10, 0, none⟩) 1 1 0 [⟨-1, 30, 0, 0⟩] [⟨0, 0, 24, 1⟩] (by decide) (by decide) (by decide) aw5 aw6 (by decide) aw1 w (blk_reads ha (cells := Vs.cells) (size := 4) (fun _ => rfl) rfl) (blk_reads ha (cells := Rd.cells) (size := 4) (fun _ => rfl) rfl) ((ha.below.cell (cell_lt hE)).trans hE)).mono (fun e w' h => ⟨by rw [h.1, aw2]; rfl, h.2⟩)) ?_
  refine lst_move rfl rfl ?_
  refine lst_extract rfl rfl rfl ?_
  refine lst_extract rfl rfl rfl ?_
  refine lst_alloc rfl F.ti33 ?_
  intro b2
  refine lst_store rfl rfl F.ti33 rfl ?_
  refine lst_assign rfl rfl ?_
  refine lst_nil ?_
  refine ex_then ?_
  refine cod_seq ?_
  refine cod_region ?_
  refine lst_lit (vs := [(0, _), (1, _), (2, _)]) rfl rfl Tryd.underlying22 F.ti3 rfl rfl rfl ?_
  intro b18
  refine lst_fn (X := Nat × Nat × Nat) (vs := [_, _, _]) (p := fun _ => True) (val := fun y => .agg [.slice (some ⟨y.1, 0, none⟩) 1 1, .slice (some ⟨y.2.1, 0, none⟩) 1 1, .int .i64 1, .slice (some ⟨y.2.2, 0, none⟩) 1 1].toArray) (rs := fun y => [.blk y.2.2 (.cells [.int .i64 1, .int .i64 (-1), .int .i64 ((20 : Nat) : Int), .int .i64 0].toArray 75 (0, 0)), .blk y.2.1 (.cells [.int .i64 ((2 : Nat) : Int)].toArray 3 (0, 0)), .blk y.1 (.cells [.slice (some ⟨b18, 0, none⟩) (List.length ([5, 3, 2])) (3)].toArray 22 (0, 0))]) rfl rfl F.ent12 (fun a w ha => (crushing_c (some ⟨b18, 0, none⟩) (List.length ([5, 3, 2])) (3) (2) (20) w).mono (fun e w' h => by obtain ⟨Lb, Sb, Wb, h1, h2⟩ := h; exact ⟨(Lb, Sb, Wb), trivial, h1, h2⟩)) ?_
  rintro ⟨Lb, Sb, Wb⟩ -
  dsimp only [List.cons_append, List.nil_append]
  refine lst_fn (X := Option Addr × Nat) (vs := [_]) (p := fun _ => True) (val := fun y => .tuple #[.slice y.1 1 y.2, .int .i64 ((2 : Nat) : Int), .int .i64 0]) (rs := fun y => [.row 3 1 y.1 1 y.2 (ints [2])]) rfl rfl F.ent11 (fun a w ha => (Fewest_y ([5, 3, 2]) (some ⟨b18, 0, none⟩) (3) Lb Sb Wb (2) (20) (by decide) w (ha.sawM (l := [5, 3, 2]) (lA := some ⟨b18, 0, none⟩) (lc := 3) (Lb := Lb) (Sb := Sb) (Wb := Wb) (st := 2) (p := 20) (blk_reads ha (cells := ncell) (size := 1) (fun _ => rfl) rfl) aw4.len1 aw4.len4 aw4.low aw4.high aw4.desc (by decide) (by decide) (by decide) (by decide) (by decide))).mono (fun e w' h => by obtain ⟨A, c, h1, h2⟩ := h; exact ⟨(A, c), trivial, h1, h2⟩)) ?_
  rintro ⟨A2, c2⟩ -
  dsimp only [List.cons_append, List.nil_append]
  refine lst_move rfl rfl ?_
  refine lst_extract rfl rfl rfl ?_
  refine lst_extract rfl rfl rfl ?_
  refine lst_extract rfl rfl rfl ?_
  refine lst_assign rfl rfl ?_
  refine lst_assign rfl rfl ?_
  refine lst_assign rfl rfl ?_
  refine lst_nil ?_
  refine ex_then ?_
  refine cod_seq ?_
  refine cod_region ?_
  refine lst_move rfl rfl ?_
  refine lst_int rfl rfl rfl bin_eql ?_
  refine lst_move rfl rfl ?_
  refine lst_on rfl rfl ?_
  refine lst_move rfl rfl ?_
  refine lst_on rfl rfl ?_
  refine lst_int rfl rfl rfl bin_eql ?_
  refine lst_pick_true rfl rfl rfl ?_
  refine lst_move rfl rfl ?_
  refine lst_on rfl rfl ?_
  refine lst_loadN rfl rfl F.agg33 F.ti33 ?_
  refine lst_on rfl rfl ?_
  refine lst_struct (vs := [(0, _), (1, _)]) (l' := [_, _]) rfl rfl F.ti33 F.pl33 (.cons rfl rfl (.cons rfl rfl (.nil _))) rfl ?_
  refine lst_on rfl rfl ?_
  refine lst_bin (v := .bool true) rfl rfl rfl (aw3 _ _) ?_
  refine lst_pick_true rfl rfl rfl ?_
  refine lst_move rfl rfl ?_
  refine lst_on rfl rfl ?_
  refine lst_move rfl rfl ?_
  refine lst_on rfl rfl ?_
  refine lst_int rfl rfl rfl bin_eql ?_
  refine lst_pick_true rfl rfl rfl ?_
  refine lst_move rfl rfl ?_
  refine lst_on rfl rfl ?_
  refine lst_move rfl rfl ?_
  refine lst_on rfl rfl ?_
  refine lst_lit (vs := [(0, _)]) rfl rfl Tryd.underlying22 F.ti3 rfl rfl rfl ?_
  intro b41
  refine lst_on rfl rfl ?_
  refine lst_fn0 (v := .bool true) (vs := [_, _]) rfl rfl F.ent14 (fun a w ha => (eqInts_c (A2) (some ⟨b41, 0, none⟩) (c2) 1 [((2 : Nat) : Int)] [((2 : Nat) : Int)] (by simp) w (row_ints ha (l := [(2 : Nat)]) (InR.mem (A := A2)) rfl).cast (blk_reads ha (cells := icell) (size := 1) (l := [((2 : Nat) : Int)]) (fun _ => rfl) rfl)).mono (fun e w' h => ⟨by rw [h.1]; simp, h.2⟩)) ?_
  refine lst_pick_true rfl rfl rfl ?_
  refine lst_assign rfl rfl ?_
  refine lst_nil ?_
  refine ex_then ?_
  refine cod_ret ?_
  exact ex_ret rfl (fun a w ha => res_one rfl rfl ha) (fun a w ha => ⟨rfl, ha.grown (List.nil_sublist _)⟩)

theorem TopCrushed_c (nA : Option Addr) (nc : Nat) (nums : List Int) (w : World) (hN : RdL icell 1 w nA nums) (hE : w.cell? ⟨0, 0, none⟩ = some (iT 104)) : Calls Tryd.prog 3 #[.slice nA nums.length nc] w fun e w' => e = .returned (.bool true) ∧ Grew w w' [] := by
  have hB : w.heap.size = w.heap.size := rfl
  refine enter (N := 158) [(0, .slice nA nums.length nc)] Tryd.func3 rfl Tryd.ntmps3 rfl rfl ?_
  refine cod_seq ?_
  refine cod_region ?_
  refine lst_assign rfl rfl ?_
  refine lst_nil ?_
  refine ex_then ?_
  refine cod_seq ?_
  refine cod_region ?_
  refine lst_move rfl rfl ?_
  refine lst_fn (X := Nat) (vs := [_]) (p := fun _ => True) (val := fun b => .pointer (some ⟨b, 0, none⟩)) (rs := fun b => [.blk b (hatO nA nums.length nc 0 11400714819323198485)]) rfl rfl F.ent4 (fun a w ha => (NewHat_c nA nums.length nc w).mono (fun e w' h => by obtain ⟨b, h1, h2⟩ := h; exact ⟨b, trivial, h1, h2⟩)) ?_
  rintro hb -
  dsimp only [List.cons_append, List.nil_append]
  refine lst_assign rfl rfl ?_
  refine lst_nil ?_
  refine ex_then ?_
  refine cod_seq ?_
  refine cod_region ?_
  refine lst_move rfl rfl ?_
  refine lst_call (X := Nat × Nat × List Vs × List Rd × List Nat × Option Addr × Nat × Option Addr × Nat × Option Addr × Nat) (first := []) (cap := []) (vs := [_, _, _]) (p := fun y => y.1 ≤ 2000 ∧ y.2.1 < 18446744073709551616 ∧ Melt y.2.2.1 y.2.2.2.1 y.2.2.2.2.1) (val := fun y => .tuple #[.agg [.slice y.2.2.2.2.2.1 y.2.2.1.length y.2.2.2.2.2.2.1, .slice y.2.2.2.2.2.2.2.1 y.2.2.2.1.length y.2.2.2.2.2.2.2.2.1].toArray, .slice y.2.2.2.2.2.2.2.2.2.1 y.2.2.2.2.1.length y.2.2.2.2.2.2.2.2.2.2]) (rs := fun y => [.blk hb (hatO nA nums.length nc (y.1) (y.2.1)), .row 56 4 y.2.2.2.2.2.1 y.2.2.1.length y.2.2.2.2.2.2.1 (y.2.2.1.flatMap Vs.cells), .row 59 4 y.2.2.2.2.2.2.2.1 y.2.2.2.1.length y.2.2.2.2.2.2.2.2.1 (y.2.2.2.1.flatMap Rd.cells), .row 3 1 y.2.2.2.2.2.2.2.2.2.1 y.2.2.2.2.1.length y.2.2.2.2.2.2.2.2.2.2 (ints y.2.2.2.2.1)]) rfl rfl rfl F.ent5 (fun a w ha => (MeltOf_c (C := ⟨Tryd.prog, _, _, _, _⟩) rfl hB hN (by omega) (by omega) ha).mono (fun e w' h => by obtain ⟨tk, st, vs, rs, ws, vA, vc, rA, rc, wA, wc, h1, h2, h3, h4, h5⟩ := h; exact ⟨(tk, st, vs, rs, ws, vA, vc, rA, rc, wA, wc), ⟨h1, h2, h3⟩, h4, h5⟩)) ?_
  rintro ⟨tk, st, vs, rs, ws, vA, vc, rA, rc, wA, wc⟩ ⟨htk, hst, hM⟩
  (try dsimp only at htk hst hM ⊢)
  have hw1 : 1 ≤ ws.length := by have h1 := hM.wlen; have h2 := hM.n1; omega
  have hw4 : ws.length ≤ 4 := by have h1 := hM.wlen; have h2 := hM.n4; omega
  refine lst_move rfl rfl ?_
  refine lst_extract rfl rfl rfl ?_
  refine lst_extract rfl rfl rfl ?_
  refine lst_alloc rfl F.ti28 ?_
  intro b4
  refine lst_store rfl rfl F.ti28 rfl ?_
  refine lst_assign rfl rfl ?_
  refine lst_nil ?_
  refine ex_then ?_
  refine cod_seq ?_
  refine cod_region ?_
  refine lst_move rfl rfl ?_
  refine lst_move rfl rfl ?_
  refine lst_len rfl rfl Tryd.underlying22 ?_
  refine lst_int (v := .int .i64 ((ws.length : Int) - 1)) rfl rfl rfl (fun w => bin_sub w (wrap_i64' _ (by omega) (by omega))) ?_
  refine lst_call_pul (X := Nat × Nat) (vs := [_, _]) hb (fun y => hatO nA nums.length nc (tk + 1) (y.1)) (fun y => y.1 < 18446744073709551616 ∧ y.2 ≤ ((ws.length : Int) - 1 : Int).toNat) (fun y => .int .i64 (y.2 : Int)) rfl rfl F.ent6 (fun a w ha => (To_c (C := ⟨Tryd.prog, _, _, _, _⟩) rfl hB hN (tk := tk) (st := st) (n := (ws.length : Int) - 1) (by omega) hst (by omega) ha).mono (fun e w' h => by obtain ⟨s', x, h1, h2, h3, h4⟩ := h; exact ⟨(s', x), ⟨h1, h2⟩, h3, h4⟩)) ?_
  rintro ⟨s1, v1⟩ ⟨hs1, hv1⟩
  (try dsimp only at hs1 hv1 ⊢)
  have hv1n : v1 < ws.length := by omega
  have hvv : v1 < vs.length := by have := hM.wlen; omega
  obtain ⟨hok, hlo, hhi⟩ := hM.weight hvv
  obtain ⟨hlo40, hhi40⟩ := wgtF_le vs (nowN vs rs) v1 41 (by decide)
  obtain ⟨lo, elo⟩ : ∃ lo, (wgtF vs (nowN vs rs) v1 41).1 = lo := ⟨_, rfl⟩
  obtain ⟨hi, ehi⟩ : ∃ hi, (wgtF vs (nowN vs rs) v1 41).2 = hi := ⟨_, rfl⟩
  rw [elo] at hlo hlo40
  rw [ehi] at hhi hhi40
  have hx40 : ws.getD v1 0 ≤ 40 := by omega
  refine lst_assign rfl rfl ?_
  refine lst_nil ?_
  refine ex_then ?_
  refine cod_seq ?_
  refine cod_region ?_
  refine lst_loadN rfl rfl F.agg28 F.ti28 ?_
  refine lst_move rfl rfl ?_
  refine lst_fn0 (v := .tuple #[.agg [.int .i64 (lo : Int), .int .i64 (hi : Int)].toArray, .int .i64 0]) (vs := [_, _]) rfl rfl F.ent7 (fun a w ha => (Weight_c vA rA vc rc v1 vs rs hM.n1 (by have := hM.n4; omega) hM.r6 hM.hv hM.hr hvv hok w (row_reads ha (cells := Vs.cells) (e := 56) (c := vc) (n := vs.length) (fun _ => rfl) (InR.mem (A := vA)) rfl) (row_reads ha (cells := Rd.cells) (e := 59) (c := rc) (n := rs.length) (fun _ => rfl) (InR.mem (A := rA)) rfl) ((ha.below.cell (cell_lt hE)).trans hE)).mono (fun e w' h => ⟨by rw [h.1, elo, ehi], h.2⟩)) ?_
  refine lst_move rfl rfl ?_
  refine lst_extract rfl rfl rfl ?_
  refine lst_extract rfl rfl rfl ?_
  refine lst_alloc rfl F.ti33 ?_
  intro b7
  refine lst_store rfl rfl F.ti33 rfl ?_
  refine lst_assign rfl rfl ?_
  refine lst_know (φ := ∃ g, wA = some ⟨g, 0, none⟩) (fun a w ha => row_some (ha.own _ (InR.mem (A := wA))) (by omega)) ?_
  rintro ⟨gw, rfl⟩
  refine lst_nil ?_
  refine ex_then ?_
  refine cod_seq ?_
  refine cod_seq ?_
  refine any_begin [] F.follows 25 rfl [false, false, false, false, false, false, false, false, false, false, false, false, false, false, false, false, false, false, false, false, false, false, false, false, false] rfl ?_
  refine any_take (listed' := [true, false, false, false, false, false, false, false, false, false, false, false, false, false, false, false, false, false, false, false, false, false, false, false, false].toArray) 0 rfl rfl rfl (by kernel_rfl) (by kernel_rfl) (by kernel_rfl) (by repeat (first | exact List.Sublist.refl _ | exact List.nil_sublist _ | refine List.Sublist.cons_cons _ ?_ | refine List.Sublist.cons _ ?_)) (yld_move rfl) rfl ?_
  refine any_take (listed' := [true, true, false, false, false, false, false, false, false, false, false, false, false, false, false, false, false, false, false, false, false, false, false, false, false].toArray) 1 rfl rfl rfl (by kernel_rfl) (by kernel_rfl) (by kernel_rfl) (by repeat (first | exact List.Sublist.refl _ | exact List.nil_sublist _ | refine List.Sublist.cons_cons _ ?_ | refine List.Sublist.cons _ ?_)) (yld_int rfl rfl bin_neq) rfl ?_
  refine any_take (listed' := [true, true, true, false, false, false, false, false, false, false, false, false, false, false, false, false, false, false, false, false, false, false, false, false, false].toArray) 2 rfl rfl rfl (by kernel_rfl) (by kernel_rfl) (by kernel_rfl) (by repeat (first | exact List.Sublist.refl _ | exact List.nil_sublist _ | refine List.Sublist.cons_cons _ ?_ | refine List.Sublist.cons _ ?_)) (yld_move rfl) rfl ?_
  refine any_take_on (listed' := [true, true, true, true, false, false, false, false, false, false, false, false, false, false, false, false, false, false, false, false, false, false, false, false, false].toArray) 3 rfl rfl rfl rfl rfl (by kernel_rfl) (by kernel_rfl) (by kernel_rfl) (by repeat (first | exact List.Sublist.refl _ | exact List.nil_sublist _ | refine List.Sublist.cons_cons _ ?_ | refine List.Sublist.cons _ ?_)) (yld_field_z rfl F.fi33_0 F.ti3) rfl ?_
  refine any_take_on (listed' := [true, true, true, true, true, false, false, false, false, false, false, false, false, false, false, false, false, false, false, false, false, false, false, false, false].toArray) 4 rfl rfl rfl rfl rfl (by kernel_rfl) (by kernel_rfl) (by kernel_rfl) (by repeat (first | exact List.Sublist.refl _ | exact List.nil_sublist _ | refine List.Sublist.cons_cons _ ?_ | refine List.Sublist.cons _ ?_)) (yld_load rfl F.one3) rfl ?_
  refine any_take_on (listed' := [true, true, true, true, true, true, false, false, false, false, false, false, false, false, false, false, false, false, false, false, false, false, false, false, false].toArray) 5 rfl rfl rfl rfl rfl (by kernel_rfl) (by kernel_rfl) (by kernel_rfl) (by repeat (first | exact List.Sublist.refl _ | exact List.nil_sublist _ | refine List.Sublist.cons_cons _ ?_ | refine List.Sublist.cons _ ?_)) (yld_move rfl) rfl ?_
  refine any_take_on (listed' := [true, true, true, true, true, true, true, false, false, false, false, false, false, false, false, false, false, false, false, false, false, false, false, false, false].toArray) 6 rfl rfl rfl rfl rfl (by kernel_rfl) (by kernel_rfl) (by kernel_rfl) (by repeat (first | exact List.Sublist.refl _ | exact List.nil_sublist _ | refine List.Sublist.cons_cons _ ?_ | refine List.Sublist.cons _ ?_)) (yld_move rfl) rfl ?_
  refine any_take_on (listed' := [true, true, true, true, true, true, true, true, false, false, false, false, false, false, false, false, false, false, false, false, false, false, false, false, false].toArray) 7 rfl rfl rfl rfl rfl (by kernel_rfl) (by kernel_rfl) (by kernel_rfl) (by repeat (first | exact List.Sublist.refl _ | exact List.nil_sublist _ | refine List.Sublist.cons_cons _ ?_ | refine List.Sublist.cons _ ?_)) (yld_index (j := v1) rfl rfl Tryd.underlying22 F.ti3 rfl hv1n) rfl ?_
  refine any_take_on (listed' := [true, true, true, true, true, true, true, true, true, false, false, false, false, false, false, false, false, false, false, false, false, false, false, false, false].toArray) 8 rfl rfl rfl rfl rfl (by kernel_rfl) (by kernel_rfl) (by kernel_rfl) (by repeat (first | exact List.Sublist.refl _ | exact List.nil_sublist _ | refine List.Sublist.cons_cons _ ?_ | refine List.Sublist.cons _ ?_)) (yld_load_at (v := .int .i64 (((ws.getD v1 0 : Nat) : Int))) rfl F.one3 (fun a w ha => row_cell ha (InR.mem (A := some ⟨gw, 0, none⟩)) rfl (ints_get' hv1n))) rfl ?_
  refine any_take_on (listed' := [true, true, true, true, true, true, true, true, true, true, false, false, false, false, false, false, false, false, false, false, false, false, false, false, false].toArray) 9 rfl rfl rfl rfl rfl (by kernel_rfl) (by kernel_rfl) (by kernel_rfl) (by repeat (first | exact List.Sublist.refl _ | exact List.nil_sublist _ | refine List.Sublist.cons_cons _ ?_ | refine List.Sublist.cons _ ?_)) (yld_int (v := .bool false) rfl rfl (by rw [show false = decide (((ws.getD v1 0 : Nat) : Int) < (lo : Int)) from (decide_eq_false (by omega)).symm]; exact bin_gtr)) rfl ?_
  refine any_take (listed' := [true, true, true, true, true, true, true, true, true, true, true, false, false, false, false, false, false, false, false, false, false, false, false, false, false].toArray) 10 rfl rfl rfl (by kernel_rfl) (by kernel_rfl) (by kernel_rfl) (by repeat (first | exact List.Sublist.refl _ | exact List.nil_sublist _ | refine List.Sublist.cons_cons _ ?_ | refine List.Sublist.cons _ ?_)) (yld_pick_false rfl rfl) rfl ?_
  refine any_take (listed' := [true, true, true, true, true, true, true, true, true, true, true, true, false, false, false, false, false, false, false, false, false, false, false, false, false].toArray) 11 rfl rfl rfl (by kernel_rfl) (by kernel_rfl) (by kernel_rfl) (by repeat (first | exact List.Sublist.refl _ | exact List.nil_sublist _ | refine List.Sublist.cons_cons _ ?_ | refine List.Sublist.cons _ ?_)) (yld_move rfl) rfl ?_
  refine any_take_on (listed' := [true, true, true, true, true, true, true, true, true, true, true, true, true, false, false, false, false, false, false, false, false, false, false, false, false].toArray) 12 rfl rfl rfl rfl rfl (by kernel_rfl) (by kernel_rfl) (by kernel_rfl) (by repeat (first | exact List.Sublist.refl _ | exact List.nil_sublist _ | refine List.Sublist.cons_cons _ ?_ | refine List.Sublist.cons _ ?_)) (yld_field_z rfl F.fi33_1 F.ti3) rfl ?_
  refine any_take_on (listed' := [true, true, true, true, true, true, true, true, true, true, true, true, true, true, false, false, false, false, false, false, false, false, false, false, false].toArray) 13 rfl rfl rfl rfl rfl (by kernel_rfl) (by kernel_rfl) (by kernel_rfl) (by repeat (first | exact List.Sublist.refl _ | exact List.nil_sublist _ | refine List.Sublist.cons_cons _ ?_ | refine List.Sublist.cons _ ?_)) (yld_load rfl F.one3) rfl ?_
  refine any_take_on (listed' := [true, true, true, true, true, true, true, true, true, true, true, true, true, true, true, false, false, false, false, false, false, false, false, false, false].toArray) 14 rfl rfl rfl rfl rfl (by kernel_rfl) (by kernel_rfl) (by kernel_rfl) (by repeat (first | exact List.Sublist.refl _ | exact List.nil_sublist _ | refine List.Sublist.cons_cons _ ?_ | refine List.Sublist.cons _ ?_)) (yld_move rfl) rfl ?_
  refine any_take_on (listed' := [true, true, true, true, true, true, true, true, true, true, true, true, true, true, true, true, false, false, false, false, false, false, false, false, false].toArray) 15 rfl rfl rfl rfl rfl (by kernel_rfl) (by kernel_rfl) (by kernel_rfl) (by repeat (first | exact List.Sublist.refl _ | exact List.nil_sublist _ | refine List.Sublist.cons_cons _ ?_ | refine List.Sublist.cons _ ?_)) (yld_move rfl) rfl ?_
  refine any_take_on (listed' := [true, true, true, true, true, true, true, true, true, true, true, true, true, true, true, true, true, false, false, false, false, false, false, false, false].toArray) 16 rfl rfl rfl rfl rfl (by kernel_rfl) (by kernel_rfl) (by kernel_rfl) (by repeat (first | exact List.Sublist.refl _ | exact List.nil_sublist _ | refine List.Sublist.cons_cons _ ?_ | refine List.Sublist.cons _ ?_)) (yld_index (j := v1) rfl rfl Tryd.underlying22 F.ti3 rfl hv1n) rfl ?_
  refine any_take_on (listed' := [true, true, true, true, true, true, true, true, true, true, true, true, true, true, true, true, true, true, false, false, false, false, false, false, false].toArray) 17 rfl rfl rfl rfl rfl (by kernel_rfl) (by kernel_rfl) (by kernel_rfl) (by repeat (first | exact List.Sublist.refl _ | exact List.nil_sublist _ | refine List.Sublist.cons_cons _ ?_ | refine List.Sublist.cons _ ?_)) (yld_load_at (v := .int .i64 (((ws.getD v1 0 : Nat) : Int))) rfl F.one3 (fun a w ha => row_cell ha (InR.mem (A := some ⟨gw, 0, none⟩)) rfl (ints_get' hv1n))) rfl ?_
  refine any_take_on (listed' := [true, true, true, true, true, true, true, true, true, true, true, true, true, true, true, true, true, true, true, false, false, false, false, false, false].toArray) 18 rfl rfl rfl rfl rfl (by kernel_rfl) (by kernel_rfl) (by kernel_rfl) (by repeat (first | exact List.Sublist.refl _ | exact List.nil_sublist _ | refine List.Sublist.cons_cons _ ?_ | refine List.Sublist.cons _ ?_)) (yld_int (v := .bool false) rfl rfl (by rw [show false = decide ((hi : Int) < ((ws.getD v1 0 : Nat) : Int)) from (decide_eq_false (by omega)).symm]; exact bin_lss)) rfl ?_
  refine any_take (listed' := [true, true, true, true, true, true, true, true, true, true, true, true, true, true, true, true, true, true, true, true, false, false, false, false, false].toArray) 19 rfl rfl rfl (by kernel_rfl) (by kernel_rfl) (by kernel_rfl) (by repeat (first | exact List.Sublist.refl _ | exact List.nil_sublist _ | refine List.Sublist.cons_cons _ ?_ | refine List.Sublist.cons _ ?_)) (yld_pick_false rfl rfl) rfl ?_
  refine any_take (listed' := [true, true, true, true, true, true, true, true, true, true, true, true, true, true, true, true, true, true, true, true, true, false, false, false, false].toArray) 20 rfl rfl rfl (by kernel_rfl) (by kernel_rfl) (by kernel_rfl) (by repeat (first | exact List.Sublist.refl _ | exact List.nil_sublist _ | refine List.Sublist.cons_cons _ ?_ | refine List.Sublist.cons _ ?_)) (yld_move rfl) rfl ?_
  refine any_take_on (listed' := [true, true, true, true, true, true, true, true, true, true, true, true, true, true, true, true, true, true, true, true, true, true, false, false, false].toArray) 21 rfl rfl rfl rfl rfl (by kernel_rfl) (by kernel_rfl) (by kernel_rfl) (by repeat (first | exact List.Sublist.refl _ | exact List.nil_sublist _ | refine List.Sublist.cons_cons _ ?_ | refine List.Sublist.cons _ ?_)) (yld_field_z rfl F.fi33_0 F.ti3) rfl ?_
  refine any_take_on (listed' := [true, true, true, true, true, true, true, true, true, true, true, true, true, true, true, true, true, true, true, true, true, true, true, false, false].toArray) 22 rfl rfl rfl rfl rfl (by kernel_rfl) (by kernel_rfl) (by kernel_rfl) (by repeat (first | exact List.Sublist.refl _ | exact List.nil_sublist _ | refine List.Sublist.cons_cons _ ?_ | refine List.Sublist.cons _ ?_)) (yld_load rfl F.one3) rfl ?_
  refine any_take_on (listed' := [true, true, true, true, true, true, true, true, true, true, true, true, true, true, true, true, true, true, true, true, true, true, true, true, false].toArray) 23 rfl rfl rfl rfl rfl (by kernel_rfl) (by kernel_rfl) (by kernel_rfl) (by repeat (first | exact List.Sublist.refl _ | exact List.nil_sublist _ | refine List.Sublist.cons_cons _ ?_ | refine List.Sublist.cons _ ?_)) (yld_int (v := .bool false) rfl rfl (by rw [show false = decide ((lo : Int) < 0) from (decide_eq_false (by omega)).symm]; exact bin_lss)) rfl ?_
  refine any_take (listed' := [true, true, true, true, true, true, true, true, true, true, true, true, true, true, true, true, true, true, true, true, true, true, true, true, true].toArray) 24 rfl rfl rfl (by kernel_rfl) (by kernel_rfl) (by kernel_rfl) (by repeat (first | exact List.Sublist.refl _ | exact List.nil_sublist _ | refine List.Sublist.cons_cons _ ?_ | refine List.Sublist.cons _ ?_)) (yld_pick_false rfl rfl) rfl ?_
  refine any_done rfl (by kernel_rfl) ?_
  refine ex_then ?_
  refine cod_cond_false rfl ?_
  refine cod_skip ?_
  refine ex_then ?_
  refine cod_seq ?_
  refine cod_region ?_
  refine lst_move rfl rfl ?_
  refine lst_call (X := Nat × Nat × Nat × List Nat × Option Addr × Nat × Option Addr × Nat × Option Addr × Nat) (first := []) (cap := []) (vs := [_, _, _]) (p := fun y => y.1 ≤ 5000 ∧ y.2.1 < 18446744073709551616 ∧ LoafOk y.2.2.2.1) (val := fun y => .agg [.slice y.2.2.2.2.2.2.1 1 y.2.2.2.2.2.2.2.1, .slice y.2.2.2.2.2.2.2.2.1 1 y.2.2.2.2.2.2.2.2.2, .int .i64 (y.2.2.1 : Int), .slice none 0 0].toArray) (rs := fun y => [.blk hb (hatO nA nums.length nc (y.1) (y.2.1)), .row 22 1 y.2.2.2.2.2.2.1 1 y.2.2.2.2.2.2.2.1 [.slice y.2.2.2.2.1 y.2.2.2.1.length y.2.2.2.2.2.1], .row 3 1 y.2.2.2.2.1 y.2.2.2.1.length y.2.2.2.2.2.1 (ints y.2.2.2.1), .blk b7 (.cells [.int .i64 (lo : Int), .int .i64 (hi : Int)].toArray 33 (0, 0)), .blk b4 (.cells [.slice vA vs.length vc, .slice rA rs.length rc].toArray 28 (0, 0)), .row 56 4 vA vs.length vc (vs.flatMap Vs.cells), .row 59 4 rA rs.length rc (rs.flatMap Rd.cells), .row 3 1 (some ⟨gw, 0, none⟩) ws.length wc (ints ws)]) rfl rfl rfl F.ent8 (fun a w ha => (SawOf_c (C := ⟨Tryd.prog, _, _, _, _⟩) (T := [.blk b7 (.cells [.int .i64 (lo : Int), .int .i64 (hi : Int)].toArray 33 (0, 0)), .blk b4 (.cells [.slice vA vs.length vc, .slice rA rs.length rc].toArray 28 (0, 0)), .row 56 4 vA vs.length vc (vs.flatMap Vs.cells), .row 59 4 rA rs.length rc (rs.flatMap Rd.cells), .row 3 1 (some ⟨gw, 0, none⟩) ws.length wc (ints ws)]) rfl hB hN (tk := tk + 1) (st := s1) (by omega) hs1 (ha.pck (by repeat (first | exact Pck.nil _ | exact Pck.refl _ | (apply Pck.cons; focus ((repeat (first | exact Rem.here _ | apply Rem.there)); done)) | refine Pck.skip _ ?_)))).mono (fun e w' h => by obtain ⟨tk', st', kf, l, lA, lc, LA, SA, Lc, Sc, h1, h2, h3, h4, h5⟩ := h; exact ⟨(tk', st', kf, l, lA, lc, LA, Lc, SA, Sc), ⟨by (try dsimp only); omega, h2, h3⟩, h4, h5⟩)) ?_
  rintro ⟨tk9, s9, kf, l, lA, lc, LA, Lc, SA, Sc⟩ ⟨htk9, hs9, hL⟩
  (try dsimp only at htk9 hs9 hL ⊢)
  refine lst_know (φ := ∃ g, LA = some ⟨g, 0, none⟩) (fun a w ha => row_some (ha.own _ (InR.mem (A := LA))) (by decide)) ?_
  rintro ⟨gL, rfl⟩
  have hsum := hL.sum
  refine lst_fieldv rfl rfl (aw7 _ _ _ _) ?_
  refine lst_index (j := 0) rfl rfl rfl Tryd.underlying37 F.ti22 rfl (by decide) ?_
  refine lst_load_row (v := .slice lA l.length lc) rfl rfl F.one22 rfl rfl ?_
  refine lst_assign rfl rfl ?_
  refine lst_nil ?_
  refine ex_then ?_
  refine cod_seq ?_
  refine any_begin [] F.follows 7 rfl [false, false, false, false, false, false, false] rfl ?_
  refine any_take (listed' := [true, false, false, false, false, false, false].toArray) 0 rfl rfl rfl (by kernel_rfl) (by kernel_rfl) (by kernel_rfl) (by repeat (first | exact List.Sublist.refl _ | exact List.nil_sublist _ | refine List.Sublist.cons_cons _ ?_ | refine List.Sublist.cons _ ?_)) (yld_field_z rfl F.fi33_0 F.ti3) rfl ?_
  refine any_take (listed' := [true, true, false, false, false, false, false].toArray) 1 rfl rfl rfl (by kernel_rfl) (by kernel_rfl) (by kernel_rfl) (by repeat (first | exact List.Sublist.refl _ | exact List.nil_sublist _ | refine List.Sublist.cons_cons _ ?_ | refine List.Sublist.cons _ ?_)) (yld_load rfl F.one3) rfl ?_
  refine any_take (listed' := [true, true, true, false, false, false, false].toArray) 2 rfl rfl rfl (by kernel_rfl) (by kernel_rfl) (by kernel_rfl) (by repeat (first | exact List.Sublist.refl _ | exact List.nil_sublist _ | refine List.Sublist.cons_cons _ ?_ | refine List.Sublist.cons _ ?_)) (yld_move rfl) rfl ?_
  refine any_one (listed' := [true, true, true, true, false, false, false].toArray) 3 (by kernel_rfl) rfl rfl ?_
  refine lst_fn0 (v := .int .i64 (sumN l : Int)) (vs := [_]) rfl rfl F.ent9 (fun a w ha => kSum_c lA lc l (by have := hL.sum; omega) (by have := hL.len4; omega) w (row_ints ha (InR.mem (A := lA)) rfl)) ?_
  refine lst_nil ?_
  refine any_next (by repeat (first | exact List.Sublist.refl _ | exact List.nil_sublist _ | refine List.Sublist.cons_cons _ ?_ | refine List.Sublist.cons _ ?_)) ?_
  refine any_one (listed' := [true, true, true, true, true, false, false].toArray) 4 (by kernel_rfl) rfl rfl ?_
  obtain ⟨q, hq⟩ : ∃ q, q = lo / sumN l := ⟨_, rfl⟩
  have hql : q ≤ lo := hq ▸ Nat.div_le_self _ _
  refine lst_int (v := .int .i64 (q : Int)) rfl rfl rfl (fun w => bin_quo w (by omega) (by rw [← Int.ofNat_tdiv, ← hq]; exact wrap_i64' _ (by omega) (by omega))) ?_
  refine lst_nil ?_
  refine any_next (by repeat (first | exact List.Sublist.refl _ | exact List.nil_sublist _ | refine List.Sublist.cons_cons _ ?_ | refine List.Sublist.cons _ ?_)) ?_
  refine any_take (listed' := [true, true, true, true, true, true, false].toArray) 5 rfl rfl rfl (by kernel_rfl) (by kernel_rfl) (by kernel_rfl) (by repeat (first | exact List.Sublist.refl _ | exact List.nil_sublist _ | refine List.Sublist.cons_cons _ ?_ | refine List.Sublist.cons _ ?_)) (yld_min rfl rfl) rfl ?_
  obtain ⟨n, hn⟩ : ∃ n, n = min 4 q := ⟨_, rfl⟩
  rw [show (if (q : Int) < 4 then (q : Int) else 4) = (n : Int) by split <;> omega]
  have hn4 : n ≤ 4 := by omega
  have hns : n * sumN l ≤ lo := Nat.le_trans (Nat.mul_le_mul_right _ (show n ≤ lo / sumN l by rw [← hq]; omega)) (Nat.div_mul_le_self lo (sumN l))
  refine any_take (listed' := [true, true, true, true, true, true, true].toArray) 6 rfl rfl rfl (by kernel_rfl) (by kernel_rfl) (by kernel_rfl) (by repeat (first | exact List.Sublist.refl _ | exact List.nil_sublist _ | refine List.Sublist.cons_cons _ ?_ | refine List.Sublist.cons _ ?_)) (yld_assign rfl) rfl ?_
  refine any_done rfl (by kernel_rfl) ?_
  refine ex_then ?_
  refine cod_seq ?_
  refine cod_region ?_
  refine lst_move rfl rfl ?_
  refine lst_move rfl rfl ?_
  refine lst_fn0 (v := .int .i64 (sumN l : Int)) (vs := [_]) rfl rfl F.ent9 (fun a w ha => kSum_c lA lc l (by have := hL.sum; omega) (by have := hL.len4; omega) w (row_ints ha (InR.mem (A := lA)) rfl)) ?_
  refine lst_int (v := .int .i64 ((n * sumN l : Nat) : Int)) rfl rfl rfl (fun w => bin_mul w (by rw [← Int.natCast_mul]; exact wrap_i64' _ (by omega) (by omega))) ?_
  refine lst_assign rfl rfl ?_
  refine lst_nil ?_
  refine ex_then ?_
  refine cod_seq ?_
  refine cod_seq ?_
  refine cod_region ?_
  refine lst_cut1 6 84 (.bool (decide (n = 0) || decide (60 ≤ n * sumN l))) ?_ ?_
  · skip
    refine lst_move rfl rfl ?_
    refine lst_int rfl rfl rfl bin_eql ?_
    refine lst_move rfl rfl ?_
    refine lst_split (t := 81) rfl (fun hg81 => ?_) (fun hg81 => ?_)
    · skip
      refine lst_off rfl rfl rfl ?_
      refine lst_off rfl rfl rfl ?_
      refine lst_pick_true rfl rfl rfl ?_
      refine lst_nil ?_
      exact ex_cut (.cons (by first | (simp at hg81; simp [look, hg81]; done) | (refine congrArg (fun b => some (Value.bool b)) ?_; rw [Bool.eq_iff_iff]; simp at hg81 ⊢; omega)) (by repeat (first | exact Sub.nil _ | refine Sub.cons rfl ?_))) (by repeat (first | exact List.Sublist.refl _ | exact List.nil_sublist _ | refine List.Sublist.cons_cons _ ?_ | refine List.Sublist.cons _ ?_))
    · skip
      refine lst_on rfl rfl ?_
      refine lst_move rfl rfl ?_
      refine lst_on rfl rfl ?_
      refine lst_int rfl rfl rfl bin_geq ?_
      refine lst_pick_false rfl rfl rfl ?_
      refine lst_nil ?_
      exact ex_cut (.cons (by first | (simp at hg81; simp [look, hg81]; done) | (refine congrArg (fun b => some (Value.bool b)) ?_; rw [Bool.eq_iff_iff]; simp at hg81 ⊢; omega)) (by repeat (first | exact Sub.nil _ | refine Sub.cons rfl ?_))) (by repeat (first | exact List.Sublist.refl _ | exact List.nil_sublist _ | refine List.Sublist.cons_cons _ ?_ | refine List.Sublist.cons _ ?_))
  refine lst_nil ?_
  refine ex_then ?_
  refine cod_cond_bool rfl (fun hc1 => ?_) (fun hc1 => ?_)
  · skip
    refine cod_seq ?_
    refine cod_region ?_
    refine lst_fn0 (vs := []) rfl rfl F.ent10 (fun a w ha => awake_c w ((ha.below.cell (cell_lt hE)).trans hE)) ?_
    refine lst_assign rfl rfl ?_
    refine lst_nil ?_
    refine ex_then ?_
    refine cod_ret ?_
    refine ex_then_ret ?_
    exact ex_ret rfl (fun a w ha => res_one rfl rfl ha) (fun a w ha => ⟨rfl, ha.grown (List.nil_sublist _)⟩)
  · skip
    have hn1 : 1 ≤ n ∧ n * sumN l < 60 := by simp at hc1; omega
    obtain ⟨hn1, hlt60⟩ := hn1
    have hp1 : 1 ≤ n * sumN l := Nat.mul_pos hn1 hsum.1
    refine cod_skip ?_
    refine ex_then ?_
    refine cod_seq ?_
    refine cod_region ?_
    refine lst_move rfl rfl ?_
    refine lst_move rfl rfl ?_
    refine lst_move rfl rfl ?_
    refine lst_fn (X := Nat × Nat × Nat) (vs := [_, _, _]) (p := fun _ => True) (val := fun y => .agg [.slice (some ⟨y.1, 0, none⟩) 1 1, .slice (some ⟨y.2.1, 0, none⟩) 1 1, .int .i64 1, .slice (some ⟨y.2.2, 0, none⟩) 1 1].toArray) (rs := fun y => [.blk y.2.2 (.cells [.int .i64 1, .int .i64 (-1), .int .i64 ((n * sumN l : Nat) : Int), .int .i64 0].toArray 75 (0, 0)), .blk y.2.1 (.cells [.int .i64 ((n : Nat) : Int)].toArray 3 (0, 0)), .blk y.1 (.cells [.slice (lA) (List.length (l)) (lc)].toArray 22 (0, 0))]) rfl rfl F.ent12 (fun a w ha => (crushing_c (lA) (List.length (l)) (lc) (n) (n * sumN l) w).mono (fun e w' h => by obtain ⟨Lb, Sb, Wb, h1, h2⟩ := h; exact ⟨(Lb, Sb, Wb), trivial, h1, h2⟩)) ?_
    rintro ⟨Lb0, Sb0, Wb0⟩ -
    dsimp only [List.cons_append, List.nil_append]
    refine lst_fn (X := Option Addr × Nat) (vs := [_]) (p := fun _ => True) (val := fun y => .tuple #[.slice y.1 1 y.2, .int .i64 ((n : Nat) : Int), .int .i64 0]) (rs := fun y => [.row 3 1 y.1 1 y.2 (ints [n])]) rfl rfl F.ent11 (fun a w ha => (Fewest_y (l) (lA) (lc) Lb0 Sb0 Wb0 (n) (n * sumN l) (Nat.le_refl _) w (ha.sawM (l := l) (lA := lA) (lc := lc) (Lb := Lb0) (Sb := Sb0) (Wb := Wb0) (st := n) (p := n * sumN l) (row_ints ha (InR.mem (A := lA)) rfl) hL.len1 hL.len4 hL.low hL.high hL.desc (by omega) (by omega) (by omega) (by omega) (by obtain ⟨m, rfl⟩ : ∃ m, n = m + 1 := ⟨n - 1, by omega⟩; rw [Nat.add_sub_cancel, Nat.succ_mul]; omega))).mono (fun e w' h => by obtain ⟨A, c, h1, h2⟩ := h; exact ⟨(A, c), trivial, h1, h2⟩)) ?_
    rintro ⟨A0, c0⟩ -
    dsimp only [List.cons_append, List.nil_append]
    refine lst_move rfl rfl ?_
    refine lst_extract rfl rfl rfl ?_
    refine lst_extract rfl rfl rfl ?_
    refine lst_extract rfl rfl rfl ?_
    refine lst_assign rfl rfl ?_
    refine lst_assign rfl rfl ?_
    refine lst_assign rfl rfl ?_
    refine lst_nil ?_
    refine ex_then ?_
    refine cod_seq ?_
    refine cod_region ?_
    refine lst_move rfl rfl ?_
    refine lst_move rfl rfl ?_
    refine lst_move rfl rfl ?_
    refine lst_fn (X := Nat × Nat × Nat) (vs := [_, _, _]) (p := fun _ => True) (val := fun y => .agg [.slice (some ⟨y.1, 0, none⟩) 1 1, .slice (some ⟨y.2.1, 0, none⟩) 1 1, .int .i64 1, .slice (some ⟨y.2.2, 0, none⟩) 1 1].toArray) (rs := fun y => [.blk y.2.2 (.cells [.int .i64 1, .int .i64 (-1), .int .i64 ((n * sumN l : Nat) : Int), .int .i64 0].toArray 75 (0, 0)), .blk y.2.1 (.cells [.int .i64 ((n : Nat) : Int)].toArray 3 (0, 0)), .blk y.1 (.cells [.slice (lA) (List.length (l)) (lc)].toArray 22 (0, 0))]) rfl rfl F.ent12 (fun a w ha => (crushing_c (lA) (List.length (l)) (lc) (n) (n * sumN l) w).mono (fun e w' h => by obtain ⟨Lb, Sb, Wb, h1, h2⟩ := h; exact ⟨(Lb, Sb, Wb), trivial, h1, h2⟩)) ?_
    rintro ⟨Lb1, Sb1, Wb1⟩ -
    dsimp only [List.cons_append, List.nil_append]
    refine lst_lit (vs := [(0, _)]) rfl rfl Tryd.underlying22 F.ti3 rfl rfl rfl ?_
    intro b100
    refine lst_move rfl rfl ?_
    refine lst_lit (vs := [(0, _)]) rfl rfl Tryd.underlying22 F.ti3 rfl rfl rfl ?_
    intro b102
    refine lst_fn (X := Option Addr × Nat) (vs := [_, _, _]) (p := fun _ => True) (val := fun y => .tuple #[.slice y.1 1 y.2, .int .i64 0, .int .i64 0]) (rs := fun y => [.row 3 1 y.1 1 y.2 (ints [0])]) rfl rfl F.ent13 (fun a w ha => (Left_c l lA lc Lb1 Sb1 Wb1 n (n * sumN l) (some ⟨b100, 0, none⟩) (some ⟨b102, 0, none⟩) 1 1 (Nat.le_refl _) w (ha.sawM (l := l) (lA := lA) (lc := lc) (Lb := Lb1) (Sb := Sb1) (Wb := Wb1) (st := n) (p := n * sumN l) (row_ints ha (InR.mem (A := lA)) rfl) hL.len1 hL.len4 hL.low hL.high hL.desc (by omega) (by omega) (by omega) (by omega) (by obtain ⟨m, rfl⟩ : ∃ m, n = m + 1 := ⟨n - 1, by omega⟩; rw [Nat.add_sub_cancel, Nat.succ_mul]; omega)) (blk_reads ha (cells := ncell) (size := 1) (l := [0]) (fun _ => rfl) rfl) (blk_reads ha (cells := ncell) (size := 1) (l := [n]) (fun _ => rfl) rfl)).mono (fun e w' h => by obtain ⟨A, c, h1, h2⟩ := h; exact ⟨(A, c), trivial, by rw [h1, Nat.sub_self]; rfl, h2⟩)) ?_
    rintro ⟨A1, c1⟩ -
    dsimp only [List.cons_append, List.nil_append]
    refine lst_move rfl rfl ?_
    refine lst_extract rfl rfl rfl ?_
    refine lst_extract rfl rfl rfl ?_
    refine lst_extract rfl rfl rfl ?_
    refine lst_assign rfl rfl ?_
    refine lst_assign rfl rfl ?_
    refine lst_assign rfl rfl ?_
    refine lst_nil ?_
    refine ex_then ?_
    refine cod_seq ?_
    refine cod_region ?_
    refine lst_move rfl rfl ?_
    refine lst_move rfl rfl ?_
    refine lst_move rfl rfl ?_
    refine lst_int (v := .int .i64 ((n * sumN l + 1 : Nat) : Int)) rfl rfl rfl (fun w => bin_add w (by rw [wrap_i64' _ (by omega) (by omega)] <;> omega)) ?_
    refine lst_fn (X := Nat × Nat × Nat) (vs := [_, _, _]) (p := fun _ => True) (val := fun y => .agg [.slice (some ⟨y.1, 0, none⟩) 1 1, .slice (some ⟨y.2.1, 0, none⟩) 1 1, .int .i64 1, .slice (some ⟨y.2.2, 0, none⟩) 1 1].toArray) (rs := fun y => [.blk y.2.2 (.cells [.int .i64 1, .int .i64 (-1), .int .i64 ((n * sumN l + 1 : Nat) : Int), .int .i64 0].toArray 75 (0, 0)), .blk y.2.1 (.cells [.int .i64 ((n : Nat) : Int)].toArray 3 (0, 0)), .blk y.1 (.cells [.slice (lA) (List.length (l)) (lc)].toArray 22 (0, 0))]) rfl rfl F.ent12 (fun a w ha => (crushing_c (lA) (List.length (l)) (lc) (n) (n * sumN l + 1) w).mono (fun e w' h => by obtain ⟨Lb, Sb, Wb, h1, h2⟩ := h; exact ⟨(Lb, Sb, Wb), trivial, h1, h2⟩)) ?_
    rintro ⟨Lb2, Sb2, Wb2⟩ -
    dsimp only [List.cons_append, List.nil_append]
    refine lst_fn0 (vs := [_]) rfl rfl F.ent11 (fun a w ha => Fewest_n l lA lc Lb2 Sb2 Wb2 n (n * sumN l + 1) (Nat.lt_succ_self _) w (ha.sawM (l := l) (lA := lA) (lc := lc) (Lb := Lb2) (Sb := Sb2) (Wb := Wb2) (st := n) (p := n * sumN l + 1) (row_ints ha (InR.mem (A := lA)) rfl) hL.len1 hL.len4 hL.low hL.high hL.desc (by omega) (by omega) (by omega) (by omega) (by obtain ⟨m, rfl⟩ : ∃ m, n = m + 1 := ⟨n - 1, by omega⟩; rw [Nat.add_sub_cancel, Nat.succ_mul]; omega))) ?_
    refine lst_move rfl rfl ?_
    refine lst_extract rfl rfl rfl ?_
    refine lst_extract rfl rfl rfl ?_
    refine lst_extract rfl rfl rfl ?_
    refine lst_assign rfl rfl ?_
    refine lst_assign rfl rfl ?_
    refine lst_assign rfl rfl ?_
    refine lst_nil ?_
    refine ex_then ?_
    refine cod_seq ?_
    refine cod_region ?_
    refine lst_move rfl rfl ?_
    refine lst_move rfl rfl ?_
    refine lst_move rfl rfl ?_
    refine lst_index (j := v1) rfl rfl rfl Tryd.underlying22 F.ti3 rfl hv1n ?_
    refine lst_load_row (v := .int .i64 (((ws.getD v1 0 : Nat) : Int))) rfl rfl F.one3 rfl (ints_get' hv1n) ?_
    refine lst_int (v := .bool true) rfl rfl rfl (by rw [show true = decide (((n * sumN l : Nat) : Int) ≤ ((ws.getD v1 0 : Nat) : Int)) from (decide_eq_true (by omega)).symm]; exact bin_leq) ?_
    refine lst_move rfl rfl ?_
    refine lst_on rfl rfl ?_
    refine lst_move rfl rfl ?_
    refine lst_on rfl rfl ?_
    refine lst_int rfl rfl rfl bin_eql ?_
    refine lst_pick_true rfl rfl rfl ?_
    refine lst_move rfl rfl ?_
    refine lst_on rfl rfl ?_
    refine lst_move rfl rfl ?_
    refine lst_on rfl rfl ?_
    refine lst_int rfl rfl rfl bin_eql ?_
    refine lst_pick_true rfl rfl rfl ?_
    refine lst_move rfl rfl ?_
    refine lst_on rfl rfl ?_
    refine lst_move rfl rfl ?_
    refine lst_on rfl rfl ?_
    refine lst_int rfl rfl rfl bin_eql ?_
    refine lst_pick_true rfl rfl rfl ?_
    refine lst_move rfl rfl ?_
    refine lst_on rfl rfl ?_
    refine lst_move rfl rfl ?_
    refine lst_on rfl rfl ?_
    refine lst_move rfl rfl ?_
    refine lst_on rfl rfl ?_
    refine lst_int (v := .bool true) rfl rfl rfl (by rw [show true = decide ((n : Int) = (n : Int)) from (decide_eq_true (rfl)).symm]; exact bin_eql) ?_
    refine lst_pick_true rfl rfl rfl ?_
    refine lst_move rfl rfl ?_
    refine lst_on rfl rfl ?_
    refine lst_move rfl rfl ?_
    refine lst_on rfl rfl ?_
    refine lst_int rfl rfl rfl bin_eql ?_
    refine lst_pick_true rfl rfl rfl ?_
    refine lst_move rfl rfl ?_
    refine lst_on rfl rfl ?_
    refine lst_move rfl rfl ?_
    refine lst_on rfl rfl ?_
    refine lst_move rfl rfl ?_
    refine lst_on rfl rfl ?_
    refine lst_lit (vs := [(0, _)]) rfl rfl Tryd.underlying22 F.ti3 rfl rfl rfl ?_
    intro b147
    refine lst_on rfl rfl ?_
    refine lst_fn0 (v := .bool true) (vs := [_, _]) rfl rfl F.ent14 (fun a w ha => (eqInts_c (A0) (some ⟨b147, 0, none⟩) (c0) 1 [((n : Nat) : Int)] [((n : Nat) : Int)] (by simp) w (row_ints ha (l := [(n : Nat)]) (InR.mem (A := A0)) rfl).cast (blk_reads ha (cells := icell) (size := 1) (l := [((n : Nat) : Int)]) (fun _ => rfl) rfl)).mono (fun e w' h => ⟨by rw [h.1]; simp, h.2⟩)) ?_
    refine lst_pick_true rfl rfl rfl ?_
    refine lst_move rfl rfl ?_
    refine lst_on rfl rfl ?_
    refine lst_move rfl rfl ?_
    refine lst_on rfl rfl ?_
    refine lst_lit (vs := [(0, _)]) rfl rfl Tryd.underlying22 F.ti3 rfl rfl rfl ?_
    intro b152
    refine lst_on rfl rfl ?_
    refine lst_fn0 (v := .bool true) (vs := [_, _]) rfl rfl F.ent14 (fun a w ha => (eqInts_c (A1) (some ⟨b152, 0, none⟩) (c1) 1 [((0 : Nat) : Int)] [((0 : Nat) : Int)] (by simp) w (row_ints ha (l := [(0 : Nat)]) (InR.mem (A := A1)) rfl).cast (blk_reads ha (cells := icell) (size := 1) (l := [((0 : Nat) : Int)]) (fun _ => rfl) rfl)).mono (fun e w' h => ⟨by rw [h.1]; simp, h.2⟩)) ?_
    refine lst_pick_true rfl rfl rfl ?_
    refine lst_move rfl rfl ?_
    refine lst_on rfl rfl ?_
    refine lst_fn0 (vs := []) rfl rfl F.ent10 (fun a w ha => awake_c w ((ha.below.cell (cell_lt hE)).trans hE)) ?_
    refine lst_pick_true rfl rfl rfl ?_
    refine lst_assign rfl rfl ?_
    refine lst_nil ?_
    refine ex_then ?_
    refine cod_ret ?_
    exact ex_ret rfl (fun a w ha => res_one rfl rfl ha) (fun a w ha => ⟨rfl, ha.grown (List.nil_sublist _)⟩)

end Go.Proofs.YthkbagikmbcphaaDoor.N
/- What rows of laws about numbers share: the laid world, and the law from its lone call. -/
namespace Go.Proofs.YthkbagikmbcphaaDoor.N
open Go Go.ChangeShapes Go.WideShapes Go.ChangeAt Go.RowKit Go.Proofs Go.Proofs.YthkbagikmbcphaaDoor Go.Proofs.YthkbagikmbcphaaDoor.Rows
theorem own_ : ownKnob Tryd.prog.godebug = Option.none := by kernel_rfl
theorem laidOut_ : laidOutB Tryd.prog = true := by kernel_rfl
theorem cells3_ : Tryd.prog.cellsOf 3 = 1 := by kernel_rfl
theorem und25_ : Tryd.prog.underlying 22 = some (.slice 3) := by kernel_rfl
theorem und3_ : Tryd.prog.underlying 3 = some (.int .i64) := by kernel_rfl
theorem und4_ : Tryd.prog.underlying 4 = some .bool := by kernel_rfl
theorem read25_ : Tryd.prog.readableRec 22 = true := by kernel_rfl
set_option maxRecDepth 100000 in
theorem size_ : 22 < Tryd.prog.types.size := of_decide_eq_true (by kernel_rfl)
def laidL : List (String × DataW Unit) := [("errors.errorType", laid_errors_errorType)]
/-- The settled world, with the one listed variable laid. -/
noncomputable def laidWorld (os : Os) : World :=
  let w0 := World.holding Tryd.prog os ⟨#[], #[], []⟩
  { w0 with heap := w0.heap.modify 0 fun
      | .cells _ t frozen => .cells #[.iface 175 (.agg #[.pointer (some ⟨1, 104, Option.none⟩)])] t frozen
      | o => o }
theorem laidWorld_met (os : Os) (args : Array Value) : laidMetH Tryd.prog laidL ((laidWorld os).forCall (fun _ _ => 0) ⟨#[], args, []⟩).memory :=
  laidMetH_of_parts (laidMet_nil _ _) (by kernel_rfl)
set_option maxRecDepth 100000 in
/-- .. at one world. -/
theorem ints_contract_h {H : Type} {enc : TypeId × Value → H} {f : FuncId} {fn : Func} {s : ChangeSpec} (hp : fn.params = #[22]) (hr : fn.resultTypes = #[4]) (hs : s.vars = []) (hfn : ∀ d : DataW H, s.fn H [d] = { results := [.lit (.bool true)], args := [d] })
    (W : World) (law : ∀ (nA : Option Addr) (nc : Nat) (nums : List Int), RdL icell 1 W nA nums → Calls Tryd.prog f #[.slice nA nums.length nc] W fun e w' => e = .returned (.bool true) ∧ Grew W w' [])
    (base : Nat) (args : Array Value) (ds gs : List (DataW H)) (before : List MemPlace)
    (hval : ∀ (j : Nat) t v, fn.params[j]? = some t → args[j]? = some v → Value.okWide Tryd.prog W .any base t v)
    (hW : DataW.Whole enc Tryd.prog fn.params.toList s.vars false W args.toList ds gs before) :
    Calls Tryd.prog f args W fun e W' => ∃ v, e = .returned v ∧ s.post enc Tryd.prog fn false true false false W args v W' := by
  have hW' := hW
  obtain ⟨p, q, hA, hV, rfl, _, _⟩ := hW
  rw [hs] at hV
  rw [hp] at hA hval
  obtain ⟨v0, d0, rfl, rfl, h0⟩ := trodAll_one hA
  obtain ⟨rfl, rfl⟩ := trodVars_none hV
  obtain ⟨a0, len, cap, rfl⟩ := okWide_slice und25_ (hval 0 22 v0 rfl rfl)
  have h0k := h0
  obtain ⟨fuel, hf⟩ := h0
  clear hA
  simp only [List.append_nil] at hW'
  have hlt : ∀ x ∈ p, x.block < W.heap.size := fun x hx => by simpa using hW'.lt x hx
  have hargs : ∀ (W' : World), Below W.heap.size W W' → DataW.Trod enc Tryd.prog W' 0 (fun b => decide (b < W.heap.size)) true 22 (.slice a0 len cap) d0 p :=
    fun W' hn => Below.trod laidOut_ read25_ size_ h0k hn hlt
  have close : ∀ nums : List Int, nums.length = len → RdL icell 1 W a0 nums → Calls Tryd.prog f #[.slice a0 len cap] W fun e W' => ∃ v, e = .returned v ∧ s.post enc Tryd.prog fn false true false false W #[.slice a0 len cap] v W' := by
    intro nums hn hR
    have hl := law a0 cap nums hR
    rw [hn] at hl
    refine hl.mono fun e W' ⟨he, hg⟩ => ?_
    subst he
    refine ⟨_, rfl, _, _, _, [], p, [], hW', ?_, ?_, ?_, hg.1.frame _, fun h => Bool.noConfusion h⟩
    · rw [show s.fn H ([d0] ++ []) = _ from hfn d0, hr]; exact trodAll_mk1 (shut_bool und4_ true)
    · rw [show s.fn H ([d0] ++ []) = _ from hfn d0, hp]; exact trodAll_mk1 (hargs W' hg.1)
    · rw [show s.fn H ([d0] ++ []) = _ from hfn d0, hs]; rfl
  rcases open_ints und25_ und3_ cells3_ hf with ⟨hcs, hx⟩ | ⟨a, len', cap', zs, hcs, _, hl, hm, hz, hx, hcell, hwz⟩
  · simp [Value.cells] at hcs
    obtain ⟨rfl, rfl, rfl⟩ := hcs
    exact close [] rfl (fun h => absurd h (by simp))
  · simp [Value.cells] at hcs
    obtain ⟨rfl, rfl, rfl⟩ := hcs
    simp only [Prod.mk.injEq] at hx
    obtain ⟨rfl, rfl⟩ := hx
    simp only [if_true] at hz
    obtain ⟨b, off, spot⟩ := a
    refine close (zs.take len) (by rw [List.length_take]; omega) (fun hpos => ?_)
    rw [List.length_take] at hpos
    have hspot : spot = Option.none := by simpa [Addr.add] using World.cell?_spot (hcell 0 (by omega))
    subst hspot
    refine ⟨b, off, rfl, hlt (.cell b off) (MemPlace.mem_row.2 ⟨0, by omega, by simp⟩), fun k x hk j u hu => ?_⟩
    rw [List.getElem?_take] at hk
    split at hk
    · rename_i hkl
      cases j with
      | zero =>
        simp [icell] at hu
        subst hu
        have := hcell k (by omega)
        rw [List.getD_eq_getElem?_getD, hk] at this
        rw [Nat.mul_one, Nat.add_zero]
        rw [add_plain] at this
        exact this
      | succ j => simp [icell] at hu
    · cases hk
/-! What the listed variable holds. -/
theorem et_ : Tryd.prog.globalNamed "errors.errorType" = some 0 := by kernel_rfl
theorem rt_ : (Tryd.prog.cutTypes.find? (·.1 == "internal/reflectlite.rtype")).map (·.2) = some 175 := by kernel_rfl
set_option maxRecDepth 100000 in
theorem oneRow_ : ((List.range 224).filter fun t => Tryd.prog.rowNamed t [101, 114, 114, 111, 114]) = [104] := by kernel_rfl
theorem tsize_ : Tryd.prog.types.size = 224 := by kernel_rfl
theorem handle_of_laid {W : World} (h : laidMetH Tryd.prog laidL W) : W.cell? ⟨0, 0, Option.none⟩ = some (.iface 175 (.agg #[.pointer (some ⟨1, 104, Option.none⟩)])) := by
  have h' : laidMet Tryd.prog [] W ∧ handlesMet Tryd.prog laidL W := h
  obtain ⟨name, u, ty, e1, e2, e3, e4, e5⟩ := h'.2 _ (List.mem_singleton.2 rfl)
  have en : name = [101, 114, 114, 111, 114] := (Option.some.inj e1).symm
  subst en
  obtain rfl := Option.some.inj (rt_.symm.trans e2)
  have hm : ty ∈ (List.range 224).filter fun t => Tryd.prog.rowNamed t [101, 114, 114, 111, 114] := List.mem_filter.2 ⟨List.mem_range.2 (by rw [← tsize_]; exact e3), e4⟩
  rw [oneRow_] at hm
  obtain rfl := List.mem_singleton.1 hm
  have hh : typeHandle Tryd.prog 104 = .pointer (some ⟨1, 104, Option.none⟩) := by kernel_rfl
  rw [hh] at e5
  simpa using World.var?_cell et_ e5 0
/-! The program's order of start-up, letter by letter: what is said of it is then soon shown. -/
def orderN : List Nat := [104, 97, 114, 110, 101, 115, 115, 32, 55, 56, 48, 54, 50, 55, 100, 54, 97, 50, 53, 98, 48, 50, 52, 57, 54, 55, 48, 57, 54, 100, 97, 49, 51, 48, 101, 56, 55, 53, 100, 48, 51, 57, 98, 99, 52, 55, 102, 97, 100, 98, 49, 51, 55, 100, 49, 52, 55, 101, 52, 97, 49, 52, 55, 53, 53, 56, 53, 57, 56, 52, 49, 98, 32, 99, 117, 116, 32, 97, 116, 32, 109, 117, 115, 99, 111, 118, 97, 100, 111, 47, 109, 117, 115, 99, 111, 118, 97, 100, 111, 116, 111, 112, 46, 84, 111, 112, 67, 114, 117, 115, 104, 101, 100]
def wordsN : List (List Nat) := [[104, 97, 114, 110, 101, 115, 115], [55, 56, 48, 54, 50, 55, 100, 54, 97, 50, 53, 98, 48, 50, 52, 57, 54, 55, 48, 57, 54, 100, 97, 49, 51, 48, 101, 56, 55, 53, 100, 48, 51, 57, 98, 99, 52, 55, 102, 97, 100, 98, 49, 51, 55, 100, 49, 52, 55, 101, 52, 97, 49, 52, 55, 53, 53, 56, 53, 57, 56, 52, 49, 98], [99, 117, 116], [97, 116], [109, 117, 115, 99, 111, 118, 97, 100, 111, 47, 109, 117, 115, 99, 111, 118, 97, 100, 111, 116, 111, 112, 46, 84, 111, 112, 67, 114, 117, 115, 104, 101, 100]]
set_option maxRecDepth 100000 in
theorem order_ : Tryd.prog.initOrder = String.ofList (orderN.map Char.ofNat) := by kernel_rfl
theorem orderL_ : Tryd.prog.initOrder.toList = orderN.map Char.ofNat := by rw [order_, String.toList_ofList]
def wordN (k : Nat) : List Char := (wordsN.getD k []).map Char.ofNat
def wordR : List (List Char) := (wordsN.drop 3).map (·.map Char.ofNat)
set_option maxRecDepth 100000 in
theorem words0_ : wordsSigns Tryd.prog.initOrder.toList = wordN 0 :: wordN 1 :: wordN 2 :: wordR := by
  rw [orderL_]
  kernel_rfl
theorem behind_of {a b : List Char} {r : List (List Char)} (h1 : (a == "harness".toList || a == "ownmain".toList) = true) (h2 : isSumSigns b = true) : behindMainWord (a :: b :: r) = r := by
  unfold behindMainWord
  dsimp only
  rw [h1, h2]
  rfl
theorem words_ : behindMainWord (wordsSigns Tryd.prog.initOrder.toList) = wordN 2 :: wordR := by
  rw [words0_]
  exact behind_of (by kernel_rfl) (by kernel_rfl)
theorem make_of {P : Program} {c : List Char} {rest : List (List Char)} (h : behindMainWord (wordsSigns P.initOrder.toList) = c :: rest) (h1 : (c == "gc".toList || c == "spec".toList) = false) (h2 : (c == "cut".toList) = true) : P.make = some .cut := by
  unfold Program.make
  rw [h]
  dsimp only
  rw [h1, h2]
  rfl
theorem may_of {P : Program} {c : List Char} {rest : List (List Char)} (h : behindMainWord (wordsSigns P.initOrder.toList) = c :: rest) (h1 : (stripLifts liftWords (c :: rest)).1 = []) (h2 : ((stripLifts liftWords (c :: rest)).2.head? == some "cut".toList) = true) (h3 : P.laysLater = false) (h4 : P.bearsReflect = false) (h5 : P.doorFits [] = true) : P.mayEnter = true := by
  unfold Program.mayEnter
  rw [h]
  dsimp only
  rw [h1, h2, h3, h4, h5]
  simp
theorem lifts_of {P : Program} {c : List Char} {rest : List (List Char)} (h : behindMainWord (wordsSigns P.initOrder.toList) = c :: rest) (h1 : (stripLifts liftWords (c :: rest)).1 = []) (h2 : (c == "carried".toList) = false) : P.liftsFinal = false := by
  have e : (some c == some "carried".toList) = false := h2
  unfold Program.liftsFinal Program.headLifts
  dsimp only
  rw [h, h1, List.head?_cons, e]
  simp
theorem main_of {P : Program} {a b : List Char} {r : List (List Char)} {s : String} (h : wordsSigns P.initOrder.toList = a :: b :: r) (h1 : isSumSigns b = true) (h2 : (a == "harness".toList) = true) (h3 : s = String.ofList b) : P.mainIs = some (true, s.toList) := by
  unfold Program.mainIs
  rw [h]
  dsimp only
  rw [h1, h2, h3]
  simp [String.toList_ofList]
theorem word_lifts : (stripLifts liftWords (wordN 2 :: wordR)).1 = [] := by kernel_rfl
set_option maxRecDepth 100000 in
theorem make_ : Tryd.prog.make = some .cut := make_of words_ (by kernel_rfl) (by kernel_rfl)
set_option maxRecDepth 100000 in
theorem lifts_ : Tryd.prog.liftsFinal = false := lifts_of words_ word_lifts (by kernel_rfl)
set_option maxRecDepth 100000 in
theorem main_ : Tryd.prog.mainIs = some (true, "780627d6a25b024967096da130e875d039bc47fadb137d147e4a14755859841b".toList) := main_of words0_ (by kernel_rfl) (by kernel_rfl) (by kernel_rfl)
set_option maxRecDepth 100000 in
theorem laysLater_ : Tryd.prog.laysLater = false := by kernel_rfl
set_option maxRecDepth 100000 in
theorem bearsReflect_ : Tryd.prog.bearsReflect = false := by kernel_rfl
set_option maxRecDepth 100000 in
theorem door_ : Tryd.prog.doorFits [] = true := by kernel_rfl
set_option maxRecDepth 100000 in
theorem may_ : Tryd.prog.mayEnter = true := may_of words_ word_lifts (by kernel_rfl) laysLater_ bearsReflect_ door_
set_option maxRecDepth 100000 in
theorem mapsRowed_ : mapsRowed Tryd.prog = true := by kernel_rfl
set_option maxRecDepth 100000 in
theorem plainKeys_ : Tryd.prog.plainKeys = true := by kernel_rfl
set_option maxRecDepth 100000 in
theorem stopsHeard_ : Tryd.prog.stopsHeard = true := by kernel_rfl
set_option maxRecDepth 100000 in
theorem looks_ : Tryd.prog.looks [] = true := by kernel_rfl
end Go.Proofs.YthkbagikmbcphaaDoor.N
