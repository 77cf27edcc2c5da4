/- Parts of the walk of the law TopCrushed: T1, Puts, Sx17, TopW, T2. -/
import Derived.Test.YthkbagikmbcphaaDoorSTopCrushed01
import Derived.Test.YthkbagikmbcphaaDoorProg
import Derived.Test.YthkbagikmbcphaaDoorSTopCrushed00
import Derived.Deep.LoopGhost
import Derived.DeepKeys3
import Derived.LaidEql
import Derived.OrdersHeld
import Derived.RowKitTokens
import Derived.ScopeJumps
import Derived.Stop.Asserts
import Derived.WalkKit
import Derived.WalkLawsBesides
import Derived.RangeFuncSeq
import Derived.RecoverIn
import Derived.TacticsIn
namespace Go.Proofs.YthkbagikmbcphaaDoor.N
open Go Go.RowKit Go.Proofs
theorem F.ent18 : Enters Tryd.prog 18 := enters_of Tryd.func18 rfl (by kernel_rfl)
theorem F.ent6 : Enters Tryd.prog 6 := enters_of Tryd.func6 rfl (by kernel_rfl)
theorem F.fi52_0 : FI Tryd.prog 52 0 22 0 := ⟨_, _, Tryd.underlying52, rfl, rfl, rfl⟩
theorem F.fi52_1 : FI Tryd.prog 52 1 3 1 := ⟨_, _, Tryd.underlying52, rfl, rfl, rfl⟩
theorem F.fi52_2 : FI Tryd.prog 52 2 50 2 := ⟨_, _, Tryd.underlying52, rfl, rfl, rfl⟩
theorem F.follows : Tryd.prog.follows .mixedOrders = true := by kernel_rfl
theorem F.one22 : One Tryd.prog 22 := ⟨by unfold aggB; rw [Tryd.underlying22], by rw [Tryd.underlying22]; simp⟩
theorem F.one3 : One Tryd.prog 3 := ⟨by unfold aggB; rw [Tryd.underlying3], by rw [Tryd.underlying3]; simp⟩
theorem F.one50 : One Tryd.prog 50 := ⟨by unfold aggB; rw [Tryd.underlying50], by rw [Tryd.underlying50]; simp⟩
theorem F.pl52 : Places Tryd.prog 52 [(0, 1), (1, 1), (2, 1)] := .inl ⟨_, Tryd.underlying52, by kernel_rfl⟩
theorem F.ti22 : TI Tryd.prog 22 (.slice none 0 0) 1 24 := TI.of (by kernel_rfl)
theorem F.ti3 : TI Tryd.prog 3 (.int .i64 0) 1 8 := TI.of (by kernel_rfl)
theorem F.ti50 : TI Tryd.prog 50 (.int .u64 0) 1 8 := TI.of (by kernel_rfl)
theorem F.ti52 : TI Tryd.prog 52 (.agg [.slice none 0 0, .int .i64 0, .int .u64 0].toArray) 3 40 := TI.of (by kernel_rfl)
theorem stir_c {C : Ctx} {fr : List (Nat × Value)} {T : List Res} {a : Act} {w : World} (hC : C.P = Tryd.prog) {hb tk st nc : Nat} {nA : Option Addr} {nums : List Int} (hB : C.w0.heap.size = C.B) (hN : RdL icell 1 C.w0 nA nums) (htk : tk ≤ 1000000) (hst : st < 18446744073709551616) (ha : At C fr (.blk hb (.cells [.slice nA nums.length nc, .int .i64 (tk : Int), .int .u64 (st : Int)].toArray 52 (0, 0)) :: T) a w) : Calls C.P 18 #[.pointer (some ⟨hb, 0, none⟩)] w fun e w' => ∃ st' x : Nat, st' < 18446744073709551616 ∧ x < 18446744073709551616 ∧ e = .returned (.int .u64 (x : Int)) ∧ At C fr (.blk hb (.cells [.slice nA nums.length nc, .int .i64 ((tk + 1 : Nat) : Int), .int .u64 (st' : Int)].toArray 52 (0, 0)) :: T) a w' := by
  obtain ⟨P, B, w0, N0, ds⟩ := C
  obtain rfl : P = Tryd.prog := hC
  (try dsimp only at hB)
  (try dsimp only at hN)
  refine enter_in (N := 75) [(0, .pointer (some ⟨hb, 0, none⟩))] ha Tryd.func18 rfl Tryd.ntmps18 rfl rfl ?_
  refine cod_seq ?_
  refine cod_region ?_
  refine lst_assign rfl rfl ?_
  refine lst_nil ?_
  refine ex_then ?_
  refine cod_seq ?_
  refine cod_region ?_
  refine lst_move rfl rfl ?_
  refine lst_nilCheck rfl rfl ?_
  refine lst_field_z rfl rfl F.fi52_1 F.ti3 ?_
  refine lst_load rfl rfl F.one3 ?_
  obtain ⟨v9, hv9, ev9⟩ := u64_some (tk : Int)
  refine lst_convert rfl rfl Tryd.underlying3 Tryd.underlying50 ev9 ?_
  obtain ⟨v10, hv10, ev10⟩ := u64_some ((v9 : Int) + 1)
  refine lst_int rfl rfl rfl (fun w => bin_add w ev10) ?_
  refine lst_assign rfl rfl ?_
  refine lst_nil ?_
  refine ex_then ?_
  refine cod_seq ?_
  refine cod_seq ?_
  refine any_begin [] F.follows 10 rfl [false, false, false, false, false, false, false, false, false, false] rfl ?_
  refine any_take (listed' := [true, false, false, false, false, false, false, false, false, false].toArray) 0 rfl rfl rfl (by kernel_rfl) (by kernel_rfl) (by kernel_rfl) (by repeat (first | exact List.Sublist.refl _ | exact List.nil_sublist _ | refine List.Sublist.cons_cons _ ?_ | refine List.Sublist.cons _ ?_)) (yld_move rfl) rfl ?_
  refine any_take (listed' := [true, true, false, false, false, false, false, false, false, false].toArray) 1 rfl rfl rfl (by kernel_rfl) (by kernel_rfl) (by kernel_rfl) (by repeat (first | exact List.Sublist.refl _ | exact List.nil_sublist _ | refine List.Sublist.cons_cons _ ?_ | refine List.Sublist.cons _ ?_)) (yld_nilCheck rfl) rfl ?_
  refine any_take (listed' := [true, true, true, false, false, false, false, false, false, false].toArray) 2 rfl rfl rfl (by kernel_rfl) (by kernel_rfl) (by kernel_rfl) (by repeat (first | exact List.Sublist.refl _ | exact List.nil_sublist _ | refine List.Sublist.cons_cons _ ?_ | refine List.Sublist.cons _ ?_)) (yld_field_z rfl F.fi52_1 F.ti3) rfl ?_
  refine any_take (listed' := [true, true, true, true, false, false, false, false, false, false].toArray) 3 rfl rfl rfl (by kernel_rfl) (by kernel_rfl) (by kernel_rfl) (by repeat (first | exact List.Sublist.refl _ | exact List.nil_sublist _ | refine List.Sublist.cons_cons _ ?_ | refine List.Sublist.cons _ ?_)) (yld_load rfl F.one3) rfl ?_
  refine any_take (listed' := [true, true, true, true, true, false, false, false, false, false].toArray) 4 rfl rfl rfl (by kernel_rfl) (by kernel_rfl) (by kernel_rfl) (by repeat (first | exact List.Sublist.refl _ | exact List.nil_sublist _ | refine List.Sublist.cons_cons _ ?_ | refine List.Sublist.cons _ ?_)) (yld_move rfl) rfl ?_
  refine any_take (listed' := [true, true, true, true, true, true, false, false, false, false].toArray) 5 rfl rfl rfl (by kernel_rfl) (by kernel_rfl) (by kernel_rfl) (by repeat (first | exact List.Sublist.refl _ | exact List.nil_sublist _ | refine List.Sublist.cons_cons _ ?_ | refine List.Sublist.cons _ ?_)) (yld_nilCheck rfl) rfl ?_
  refine any_take (listed' := [true, true, true, true, true, true, true, false, false, false].toArray) 6 rfl rfl rfl (by kernel_rfl) (by kernel_rfl) (by kernel_rfl) (by repeat (first | exact List.Sublist.refl _ | exact List.nil_sublist _ | refine List.Sublist.cons_cons _ ?_ | refine List.Sublist.cons _ ?_)) (yld_field_z rfl F.fi52_0 F.ti22) rfl ?_
  refine any_take (listed' := [true, true, true, true, true, true, true, true, false, false].toArray) 7 rfl rfl rfl (by kernel_rfl) (by kernel_rfl) (by kernel_rfl) (by repeat (first | exact List.Sublist.refl _ | exact List.nil_sublist _ | refine List.Sublist.cons_cons _ ?_ | refine List.Sublist.cons _ ?_)) (yld_load rfl F.one22) rfl ?_
  refine any_take (listed' := [true, true, true, true, true, true, true, true, true, false].toArray) 8 rfl rfl rfl (by kernel_rfl) (by kernel_rfl) (by kernel_rfl) (by repeat (first | exact List.Sublist.refl _ | exact List.nil_sublist _ | refine List.Sublist.cons_cons _ ?_ | refine List.Sublist.cons _ ?_)) (yld_len rfl Tryd.underlying22) rfl ?_
  refine any_take (listed' := [true, true, true, true, true, true, true, true, true, true].toArray) 9 rfl rfl rfl (by kernel_rfl) (by kernel_rfl) (by kernel_rfl) (by repeat (first | exact List.Sublist.refl _ | exact List.nil_sublist _ | refine List.Sublist.cons_cons _ ?_ | refine List.Sublist.cons _ ?_)) (yld_int rfl rfl bin_lss) rfl ?_
  refine any_done rfl (by kernel_rfl) ?_
  refine ex_then ?_
  refine cod_cond_dec rfl (fun hc0 => ?_) (fun hc0 => ?_)
  · skip
    have hk' : tk < nums.length := by omega
    obtain ⟨b, o, rfl, hb', hcell⟩ := hN (by omega)
    obtain ⟨x, hx⟩ : ∃ x, nums[tk]? = some x := ⟨_, List.getElem?_eq_getElem hk'⟩
    obtain ⟨v32, hv32, ev32⟩ := u64_some x
    obtain ⟨v33, hv33, ev33⟩ := u64_some ((v32 : Int) * 13787848793156543929)
    refine any_begin [] F.follows 15 rfl [false, false, false, false, false, false, false, false, false, false, false, false, false, false, false] rfl ?_
    refine any_take (listed' := [true, false, false, false, false, false, false, false, false, false, false, false, false, false, false].toArray) 0 rfl rfl rfl (by kernel_rfl) (by kernel_rfl) (by kernel_rfl) (by repeat (first | exact List.Sublist.refl _ | exact List.nil_sublist _ | refine List.Sublist.cons_cons _ ?_ | refine List.Sublist.cons _ ?_)) (yld_move rfl) rfl ?_
    refine any_take (listed' := [true, true, false, false, false, false, false, false, false, false, false, false, false, false, false].toArray) 1 rfl rfl rfl (by kernel_rfl) (by kernel_rfl) (by kernel_rfl) (by repeat (first | exact List.Sublist.refl _ | exact List.nil_sublist _ | refine List.Sublist.cons_cons _ ?_ | refine List.Sublist.cons _ ?_)) (yld_move rfl) rfl ?_
    refine any_take (listed' := [true, true, true, false, false, false, false, false, false, false, false, false, false, false, false].toArray) 2 rfl rfl rfl (by kernel_rfl) (by kernel_rfl) (by kernel_rfl) (by repeat (first | exact List.Sublist.refl _ | exact List.nil_sublist _ | refine List.Sublist.cons_cons _ ?_ | refine List.Sublist.cons _ ?_)) (yld_nilCheck rfl) rfl ?_
    refine any_take (listed' := [true, true, true, true, false, false, false, false, false, false, false, false, false, false, false].toArray) 3 rfl rfl rfl (by kernel_rfl) (by kernel_rfl) (by kernel_rfl) (by repeat (first | exact List.Sublist.refl _ | exact List.nil_sublist _ | refine List.Sublist.cons_cons _ ?_ | refine List.Sublist.cons _ ?_)) (yld_field_z rfl F.fi52_0 F.ti22) rfl ?_
    refine any_take (listed' := [true, true, true, true, true, false, false, false, false, false, false, false, false, false, false].toArray) 4 rfl rfl rfl (by kernel_rfl) (by kernel_rfl) (by kernel_rfl) (by repeat (first | exact List.Sublist.refl _ | exact List.nil_sublist _ | refine List.Sublist.cons_cons _ ?_ | refine List.Sublist.cons _ ?_)) (yld_load rfl F.one22) rfl ?_
    refine any_take (listed' := [true, true, true, true, true, true, false, false, false, false, false, false, false, false, false].toArray) 5 rfl rfl rfl (by kernel_rfl) (by kernel_rfl) (by kernel_rfl) (by repeat (first | exact List.Sublist.refl _ | exact List.nil_sublist _ | refine List.Sublist.cons_cons _ ?_ | refine List.Sublist.cons _ ?_)) (yld_move rfl) rfl ?_
    refine any_take (listed' := [true, true, true, true, true, true, true, false, false, false, false, false, false, false, false].toArray) 6 rfl rfl rfl (by kernel_rfl) (by kernel_rfl) (by kernel_rfl) (by repeat (first | exact List.Sublist.refl _ | exact List.nil_sublist _ | refine List.Sublist.cons_cons _ ?_ | refine List.Sublist.cons _ ?_)) (yld_nilCheck rfl) rfl ?_
    refine any_take (listed' := [true, true, true, true, true, true, true, true, false, false, false, false, false, false, false].toArray) 7 rfl rfl rfl (by kernel_rfl) (by kernel_rfl) (by kernel_rfl) (by repeat (first | exact List.Sublist.refl _ | exact List.nil_sublist _ | refine List.Sublist.cons_cons _ ?_ | refine List.Sublist.cons _ ?_)) (yld_field_z rfl F.fi52_1 F.ti3) rfl ?_
    refine any_take (listed' := [true, true, true, true, true, true, true, true, true, false, false, false, false, false, false].toArray) 8 rfl rfl rfl (by kernel_rfl) (by kernel_rfl) (by kernel_rfl) (by repeat (first | exact List.Sublist.refl _ | exact List.nil_sublist _ | refine List.Sublist.cons_cons _ ?_ | refine List.Sublist.cons _ ?_)) (yld_load rfl F.one3) rfl ?_
    refine any_take (listed' := [true, true, true, true, true, true, true, true, true, true, false, false, false, false, false].toArray) 9 rfl rfl rfl (by kernel_rfl) (by kernel_rfl) (by kernel_rfl) (by repeat (first | exact List.Sublist.refl _ | exact List.nil_sublist _ | refine List.Sublist.cons_cons _ ?_ | refine List.Sublist.cons _ ?_)) (yld_index (j := tk) rfl rfl Tryd.underlying22 F.ti3 rfl hk') rfl ?_
    refine any_take (listed' := [true, true, true, true, true, true, true, true, true, true, true, false, false, false, false].toArray) 10 rfl rfl rfl (by kernel_rfl) (by kernel_rfl) (by kernel_rfl) (by repeat (first | exact List.Sublist.refl _ | exact List.nil_sublist _ | refine List.Sublist.cons_cons _ ?_ | refine List.Sublist.cons _ ?_)) (yld_load_at (v := .int .i64 x) rfl F.one3 (fun a w ha => ha.old (hcell tk x hx 0 _ rfl) (Nat.lt_of_lt_of_le hb' (Nat.le_of_eq hB)))) rfl ?_
    refine any_one (listed' := [true, true, true, true, true, true, true, true, true, true, true, true, false, false, false].toArray) 11 (by kernel_rfl) rfl rfl ?_
    refine lst_convert rfl rfl Tryd.underlying3 Tryd.underlying50 ev32 ?_
    refine lst_nil ?_
    refine any_next (by repeat (first | exact List.Sublist.refl _ | exact List.nil_sublist _ | refine List.Sublist.cons_cons _ ?_ | refine List.Sublist.cons _ ?_)) ?_
    refine any_one (listed' := [true, true, true, true, true, true, true, true, true, true, true, true, true, false, false].toArray) 12 (by kernel_rfl) rfl rfl ?_
    refine lst_int rfl rfl rfl (fun w => bin_mul w ev33) ?_
    refine lst_nil ?_
    refine any_next (by repeat (first | exact List.Sublist.refl _ | exact List.nil_sublist _ | refine List.Sublist.cons_cons _ ?_ | refine List.Sublist.cons _ ?_)) ?_
    refine any_one (listed' := [true, true, true, true, true, true, true, true, true, true, true, true, true, true, false].toArray) 13 (by kernel_rfl) rfl rfl ?_
    refine lst_int rfl rfl rfl (fun w => bin_xor w (u64_xor v10 v33 hv10 hv33)) ?_
    refine lst_nil ?_
    refine any_next (by repeat (first | exact List.Sublist.refl _ | exact List.nil_sublist _ | refine List.Sublist.cons_cons _ ?_ | refine List.Sublist.cons _ ?_)) ?_
    refine any_take (listed' := [true, true, true, true, true, true, true, true, true, true, true, true, true, true, true].toArray) 14 rfl rfl rfl (by kernel_rfl) (by kernel_rfl) (by kernel_rfl) (by repeat (first | exact List.Sublist.refl _ | exact List.nil_sublist _ | refine List.Sublist.cons_cons _ ?_ | refine List.Sublist.cons _ ?_)) (yld_assign rfl) rfl ?_
    refine any_done rfl (by kernel_rfl) ?_
    obtain ⟨q, hqe⟩ : ∃ q, q = v10 ^^^ v33 := ⟨_, rfl⟩
    have hq : q < 18446744073709551616 := by rw [hqe]; exact xor64 hv10 hv33
    rw [← hqe]
    refine ex_then ?_
    refine cod_seq ?_
    refine cod_region ?_
    refine lst_move rfl rfl ?_
    refine lst_nilCheck rfl rfl ?_
    refine lst_field_z rfl rfl F.fi52_1 F.ti3 ?_
    refine lst_load rfl rfl F.one3 ?_
    refine lst_int rfl rfl rfl (fun w => bin_add w (show IntKind.i64.wrap ((tk : Int) + 1) = ((tk + 1 : Nat) : Int) from wrap_i64' _ (by omega) (by omega))) ?_
    refine lst_nilCheck rfl rfl ?_
    refine lst_field_z rfl rfl F.fi52_1 F.ti3 ?_
    refine lst_store rfl rfl F.ti3 rfl ?_
    refine lst_nil ?_
    refine ex_then ?_
    refine cod_seq ?_
    refine cod_region ?_
    refine lst_move rfl rfl ?_
    refine lst_move rfl rfl ?_
    refine lst_nilCheck rfl rfl ?_
    refine lst_field_z rfl rfl F.fi52_2 F.ti50 ?_
    refine lst_load rfl rfl F.one50 ?_
    refine lst_move rfl rfl ?_
    refine lst_int rfl rfl rfl (fun w => bin_xor w (u64_xor st q hst hq)) ?_
    obtain ⟨v49, hv49, ev49⟩ := u64_some (((st ^^^ q : Nat) : Int) * 10723151780598845931)
    refine lst_int rfl rfl rfl (fun w => bin_mul w ev49) ?_
    refine lst_nilCheck rfl rfl ?_
    refine lst_field_z rfl rfl F.fi52_2 F.ti50 ?_
    refine lst_store rfl rfl F.ti50 rfl ?_
    refine lst_nil ?_
    refine ex_then ?_
    refine cod_seq ?_
    refine any_begin [.b hb] F.follows 14 rfl [false, false, false, false, false, false, false, false, false, false, false, false, false, false] rfl ?_
    refine any_take (listed' := [true, false, false, false, false, false, false, false, false, false, false, false, false, false].toArray) 0 rfl rfl rfl (by kernel_rfl) (by kernel_rfl) (by kernel_rfl) (by repeat (first | exact List.Sublist.refl _ | exact List.nil_sublist _ | refine List.Sublist.cons_cons _ ?_ | refine List.Sublist.cons _ ?_)) (yld_move rfl) rfl ?_
    refine any_take (listed' := [true, true, false, false, false, false, false, false, false, false, false, false, false, false].toArray) 1 rfl rfl rfl (by kernel_rfl) (by kernel_rfl) (by kernel_rfl) (by repeat (first | exact List.Sublist.refl _ | exact List.nil_sublist _ | refine List.Sublist.cons_cons _ ?_ | refine List.Sublist.cons _ ?_)) (yld_move rfl) rfl ?_
    refine any_take (listed' := [true, true, true, false, false, false, false, false, false, false, false, false, false, false].toArray) 2 rfl rfl rfl (by kernel_rfl) (by kernel_rfl) (by kernel_rfl) (by repeat (first | exact List.Sublist.refl _ | exact List.nil_sublist _ | refine List.Sublist.cons_cons _ ?_ | refine List.Sublist.cons _ ?_)) (yld_nilCheck rfl) rfl ?_
    refine any_take (listed' := [true, true, true, true, false, false, false, false, false, false, false, false, false, false].toArray) 3 rfl rfl rfl (by kernel_rfl) (by kernel_rfl) (by kernel_rfl) (by repeat (first | exact List.Sublist.refl _ | exact List.nil_sublist _ | refine List.Sublist.cons_cons _ ?_ | refine List.Sublist.cons _ ?_)) (yld_field_z rfl F.fi52_2 F.ti50) rfl ?_
    refine any_take (listed' := [true, true, true, true, false, true, false, false, false, false, false, false, false, false].toArray) 5 rfl rfl rfl (by kernel_rfl) (by kernel_rfl) (by kernel_rfl) (by repeat (first | exact List.Sublist.refl _ | exact List.nil_sublist _ | refine List.Sublist.cons_cons _ ?_ | refine List.Sublist.cons _ ?_)) (yld_move rfl) rfl ?_
    refine any_take (listed' := [true, true, true, true, false, true, true, false, false, false, false, false, false, false].toArray) 6 rfl rfl rfl (by kernel_rfl) (by kernel_rfl) (by kernel_rfl) (by repeat (first | exact List.Sublist.refl _ | exact List.nil_sublist _ | refine List.Sublist.cons_cons _ ?_ | refine List.Sublist.cons _ ?_)) (yld_nilCheck rfl) rfl ?_
    refine any_take (listed' := [true, true, true, true, false, true, true, true, false, false, false, false, false, false].toArray) 7 rfl rfl rfl (by kernel_rfl) (by kernel_rfl) (by kernel_rfl) (by repeat (first | exact List.Sublist.refl _ | exact List.nil_sublist _ | refine List.Sublist.cons_cons _ ?_ | refine List.Sublist.cons _ ?_)) (yld_field_z rfl F.fi52_2 F.ti50) rfl ?_
    refine any_two (l1 := [true, true, true, true, true, true, true, true, false, false, false, false, false, false].toArray) (l2 := [true, true, true, true, false, true, true, true, true, false, false, false, false, false].toArray) 4 8 (by kernel_rfl) rfl rfl rfl rfl ?_ ?_
    · skip
      refine lst_load rfl rfl F.one50 ?_
      refine lst_nil ?_
      refine any_next (by repeat (first | exact List.Sublist.refl _ | exact List.nil_sublist _ | refine List.Sublist.cons_cons _ ?_ | refine List.Sublist.cons _ ?_)) ?_
      refine any_one (listed' := [true, true, true, true, true, true, true, true, true, false, false, false, false, false].toArray) 8 (by kernel_rfl) rfl rfl ?_
      refine lst_load rfl rfl F.one50 ?_
      refine lst_nil ?_
      refine any_next (by repeat (first | exact List.Sublist.refl _ | exact List.nil_sublist _ | refine List.Sublist.cons_cons _ ?_ | refine List.Sublist.cons _ ?_)) ?_
      refine any_one (listed' := [true, true, true, true, true, true, true, true, true, true, false, false, false, false].toArray) 9 (by kernel_rfl) rfl rfl ?_
      refine lst_shr rfl rfl rfl (by omega) (fdiv_shr v49 31 _) ?_
      refine lst_nil ?_
      refine any_next (by repeat (first | exact List.Sublist.refl _ | exact List.nil_sublist _ | refine List.Sublist.cons_cons _ ?_ | refine List.Sublist.cons _ ?_)) ?_
      refine any_one (listed' := [true, true, true, true, true, true, true, true, true, true, true, false, false, false].toArray) 10 (by kernel_rfl) rfl rfl ?_
      refine lst_int rfl rfl rfl (fun w => bin_xor w (u64_xor v49 (v49 >>> (min 31 64)) hv49 (shr64 _ hv49))) ?_
      refine lst_nil ?_
      refine any_next (by repeat (first | exact List.Sublist.refl _ | exact List.nil_sublist _ | refine List.Sublist.cons_cons _ ?_ | refine List.Sublist.cons _ ?_)) ?_
      refine any_take (listed' := [true, true, true, true, true, true, true, true, true, true, true, true, false, false].toArray) 11 rfl rfl rfl (by kernel_rfl) (by kernel_rfl) (by kernel_rfl) (by repeat (first | exact List.Sublist.refl _ | exact List.nil_sublist _ | refine List.Sublist.cons_cons _ ?_ | refine List.Sublist.cons _ ?_)) (yld_nilCheck rfl) rfl ?_
      refine any_take (listed' := [true, true, true, true, true, true, true, true, true, true, true, true, true, false].toArray) 12 rfl rfl rfl (by kernel_rfl) (by kernel_rfl) (by kernel_rfl) (by repeat (first | exact List.Sublist.refl _ | exact List.nil_sublist _ | refine List.Sublist.cons_cons _ ?_ | refine List.Sublist.cons _ ?_)) (yld_field_z rfl F.fi52_2 F.ti50) rfl ?_
      refine any_one (listed' := [true, true, true, true, true, true, true, true, true, true, true, true, true, true].toArray) 13 (by kernel_rfl) rfl rfl ?_
      refine lst_store rfl rfl F.ti50 rfl ?_
      refine lst_nil ?_
      refine any_next (by repeat (first | exact List.Sublist.refl _ | exact List.nil_sublist _ | refine List.Sublist.cons_cons _ ?_ | refine List.Sublist.cons _ ?_)) ?_
      refine any_done rfl (by kernel_rfl) ?_
      refine ex_then ?_
      refine cod_seq ?_
      refine cod_region ?_
      obtain ⟨s2, hs2e⟩ : ∃ s2, s2 = v49 ^^^ (v49 >>> (min 31 64)) := ⟨_, rfl⟩
      have hs2 : s2 < 18446744073709551616 := by rw [hs2e]; exact xor64 hv49 (shr64 _ hv49)
      rw [← hs2e]
      obtain ⟨v69, hv69, ev69⟩ := u64_some ((s2 : Int) * 15485907386658061715)
      refine lst_move rfl rfl ?_
      refine lst_nilCheck rfl rfl ?_
      refine lst_field_z rfl rfl F.fi52_2 F.ti50 ?_
      refine lst_load rfl rfl F.one50 ?_
      refine lst_int rfl rfl rfl (fun w => bin_mul w ev69) ?_
      refine lst_assign rfl rfl ?_
      refine lst_nil ?_
      refine ex_then ?_
      refine cod_seq ?_
      refine cod_region ?_
      refine lst_move rfl rfl ?_
      refine lst_move rfl rfl ?_
      refine lst_shr rfl rfl rfl (by omega) (fdiv_shr v69 32 _) ?_
      refine lst_int rfl rfl rfl (fun w => bin_xor w (u64_xor v69 (v69 >>> (min 32 64)) hv69 (shr64 _ hv69))) ?_
      refine lst_shr rfl rfl rfl (by omega) (fdiv_shr (v69 ^^^ (v69 >>> (min 32 64))) 9 _) ?_
      refine lst_assign rfl rfl ?_
      refine lst_nil ?_
      refine ex_then ?_
      refine cod_ret ?_
      exact ex_ret rfl (fun a w ha => res_one rfl rfl ha) (fun _ _ ha' => ⟨s2, _, hs2, shr64 _ (xor64 hv69 (shr64 _ hv69)), rfl, ha.back (ha'.pck (by repeat (first | exact Pck.nil _ | exact Pck.refl _ | (apply Pck.cons; focus ((repeat (first | exact Rem.here _ | apply Rem.there)); done)) | refine Pck.skip _ ?_)))⟩)
    · skip
      refine lst_load rfl rfl F.one50 ?_
      refine lst_nil ?_
      refine any_next (by repeat (first | exact List.Sublist.refl _ | exact List.nil_sublist _ | refine List.Sublist.cons_cons _ ?_ | refine List.Sublist.cons _ ?_)) ?_
      refine any_two (l1 := [true, true, true, true, true, true, true, true, true, false, false, false, false, false].toArray) (l2 := [true, true, true, true, false, true, true, true, true, true, false, false, false, false].toArray) 4 9 (by kernel_rfl) rfl rfl rfl rfl ?_ ?_
      · skip
        refine lst_load rfl rfl F.one50 ?_
        refine lst_nil ?_
        refine any_next (by repeat (first | exact List.Sublist.refl _ | exact List.nil_sublist _ | refine List.Sublist.cons_cons _ ?_ | refine List.Sublist.cons _ ?_)) ?_
        refine any_one (listed' := [true, true, true, true, true, true, true, true, true, true, false, false, false, false].toArray) 9 (by kernel_rfl) rfl rfl ?_
        refine lst_shr rfl rfl rfl (by omega) (fdiv_shr v49 31 _) ?_
        refine lst_nil ?_
        refine any_next (by repeat (first | exact List.Sublist.refl _ | exact List.nil_sublist _ | refine List.Sublist.cons_cons _ ?_ | refine List.Sublist.cons _ ?_)) ?_
        refine any_one (listed' := [true, true, true, true, true, true, true, true, true, true, true, false, false, false].toArray) 10 (by kernel_rfl) rfl rfl ?_
        refine lst_int rfl rfl rfl (fun w => bin_xor w (u64_xor v49 (v49 >>> (min 31 64)) hv49 (shr64 _ hv49))) ?_
        refine lst_nil ?_
        refine any_next (by repeat (first | exact List.Sublist.refl _ | exact List.nil_sublist _ | refine List.Sublist.cons_cons _ ?_ | refine List.Sublist.cons _ ?_)) ?_
        refine any_take (listed' := [true, true, true, true, true, true, true, true, true, true, true, true, false, false].toArray) 11 rfl rfl rfl (by kernel_rfl) (by kernel_rfl) (by kernel_rfl) (by repeat (first | exact List.Sublist.refl _ | exact List.nil_sublist _ | refine List.Sublist.cons_cons _ ?_ | refine List.Sublist.cons _ ?_)) (yld_nilCheck rfl) rfl ?_
        refine any_take (listed' := [true, true, true, true, true, true, true, true, true, true, true, true, true, false].toArray) 12 rfl rfl rfl (by kernel_rfl) (by kernel_rfl) (by kernel_rfl) (by repeat (first | exact List.Sublist.refl _ | exact List.nil_sublist _ | refine List.Sublist.cons_cons _ ?_ | refine List.Sublist.cons _ ?_)) (yld_field_z rfl F.fi52_2 F.ti50) rfl ?_
        refine any_one (listed' := [true, true, true, true, true, true, true, true, true, true, true, true, true, true].toArray) 13 (by kernel_rfl) rfl rfl ?_
        refine lst_store rfl rfl F.ti50 rfl ?_
        refine lst_nil ?_
        refine any_next (by repeat (first | exact List.Sublist.refl _ | exact List.nil_sublist _ | refine List.Sublist.cons_cons _ ?_ | refine List.Sublist.cons _ ?_)) ?_
        refine any_done rfl (by kernel_rfl) ?_
        refine ex_then ?_
        refine cod_seq ?_
        refine cod_region ?_
        obtain ⟨s2, hs2e⟩ : ∃ s2, s2 = v49 ^^^ (v49 >>> (min 31 64)) := ⟨_, rfl⟩
        have hs2 : s2 < 18446744073709551616 := by rw [hs2e]; exact xor64 hv49 (shr64 _ hv49)
        rw [← hs2e]
        obtain ⟨v69, hv69, ev69⟩ := u64_some ((s2 : Int) * 15485907386658061715)
        refine lst_move rfl rfl ?_
        refine lst_nilCheck rfl rfl ?_
        refine lst_field_z rfl rfl F.fi52_2 F.ti50 ?_
        refine lst_load rfl rfl F.one50 ?_
        refine lst_int rfl rfl rfl (fun w => bin_mul w ev69) ?_
        refine lst_assign rfl rfl ?_
        refine lst_nil ?_
        refine ex_then ?_
        refine cod_seq ?_
        refine cod_region ?_
        refine lst_move rfl rfl ?_
        refine lst_move rfl rfl ?_
        refine lst_shr rfl rfl rfl (by omega) (fdiv_shr v69 32 _) ?_
        refine lst_int rfl rfl rfl (fun w => bin_xor w (u64_xor v69 (v69 >>> (min 32 64)) hv69 (shr64 _ hv69))) ?_
        refine lst_shr rfl rfl rfl (by omega) (fdiv_shr (v69 ^^^ (v69 >>> (min 32 64))) 9 _) ?_
        refine lst_assign rfl rfl ?_
        refine lst_nil ?_
        refine ex_then ?_
        refine cod_ret ?_
        exact ex_ret rfl (fun a w ha => res_one rfl rfl ha) (fun _ _ ha' => ⟨s2, _, hs2, shr64 _ (xor64 hv69 (shr64 _ hv69)), rfl, ha.back (ha'.pck (by repeat (first | exact Pck.nil _ | exact Pck.refl _ | (apply Pck.cons; focus ((repeat (first | exact Rem.here _ | apply Rem.there)); done)) | refine Pck.skip _ ?_)))⟩)
      · skip
        refine lst_shr rfl rfl rfl (by omega) (fdiv_shr v49 31 _) ?_
        refine lst_nil ?_
        refine any_next (by repeat (first | exact List.Sublist.refl _ | exact List.nil_sublist _ | refine List.Sublist.cons_cons _ ?_ | refine List.Sublist.cons _ ?_)) ?_
        refine any_one (listed' := [true, true, true, true, true, true, true, true, true, true, false, false, false, false].toArray) 4 (by kernel_rfl) rfl rfl ?_
        refine lst_load rfl rfl F.one50 ?_
        refine lst_nil ?_
        refine any_next (by repeat (first | exact List.Sublist.refl _ | exact List.nil_sublist _ | refine List.Sublist.cons_cons _ ?_ | refine List.Sublist.cons _ ?_)) ?_
        refine any_one (listed' := [true, true, true, true, true, true, true, true, true, true, true, false, false, false].toArray) 10 (by kernel_rfl) rfl rfl ?_
        refine lst_int rfl rfl rfl (fun w => bin_xor w (u64_xor v49 (v49 >>> (min 31 64)) hv49 (shr64 _ hv49))) ?_
        refine lst_nil ?_
        refine any_next (by repeat (first | exact List.Sublist.refl _ | exact List.nil_sublist _ | refine List.Sublist.cons_cons _ ?_ | refine List.Sublist.cons _ ?_)) ?_
        refine any_take (listed' := [true, true, true, true, true, true, true, true, true, true, true, true, false, false].toArray) 11 rfl rfl rfl (by kernel_rfl) (by kernel_rfl) (by kernel_rfl) (by repeat (first | exact List.Sublist.refl _ | exact List.nil_sublist _ | refine List.Sublist.cons_cons _ ?_ | refine List.Sublist.cons _ ?_)) (yld_nilCheck rfl) rfl ?_
        refine any_take (listed' := [true, true, true, true, true, true, true, true, true, true, true, true, true, false].toArray) 12 rfl rfl rfl (by kernel_rfl) (by kernel_rfl) (by kernel_rfl) (by repeat (first | exact List.Sublist.refl _ | exact List.nil_sublist _ | refine List.Sublist.cons_cons _ ?_ | refine List.Sublist.cons _ ?_)) (yld_field_z rfl F.fi52_2 F.ti50) rfl ?_
        refine any_one (listed' := [true, true, true, true, true, true, true, true, true, true, true, true, true, true].toArray) 13 (by kernel_rfl) rfl rfl ?_
        refine lst_store rfl rfl F.ti50 rfl ?_
        refine lst_nil ?_
        refine any_next (by repeat (first | exact List.Sublist.refl _ | exact List.nil_sublist _ | refine List.Sublist.cons_cons _ ?_ | refine List.Sublist.cons _ ?_)) ?_
        refine any_done rfl (by kernel_rfl) ?_
        refine ex_then ?_
        refine cod_seq ?_
        refine cod_region ?_
        obtain ⟨s2, hs2e⟩ : ∃ s2, s2 = v49 ^^^ (v49 >>> (min 31 64)) := ⟨_, rfl⟩
        have hs2 : s2 < 18446744073709551616 := by rw [hs2e]; exact xor64 hv49 (shr64 _ hv49)
        rw [← hs2e]
        obtain ⟨v69, hv69, ev69⟩ := u64_some ((s2 : Int) * 15485907386658061715)
        refine lst_move rfl rfl ?_
        refine lst_nilCheck rfl rfl ?_
        refine lst_field_z rfl rfl F.fi52_2 F.ti50 ?_
        refine lst_load rfl rfl F.one50 ?_
        refine lst_int rfl rfl rfl (fun w => bin_mul w ev69) ?_
        refine lst_assign rfl rfl ?_
        refine lst_nil ?_
        refine ex_then ?_
        refine cod_seq ?_
        refine cod_region ?_
        refine lst_move rfl rfl ?_
        refine lst_move rfl rfl ?_
        refine lst_shr rfl rfl rfl (by omega) (fdiv_shr v69 32 _) ?_
        refine lst_int rfl rfl rfl (fun w => bin_xor w (u64_xor v69 (v69 >>> (min 32 64)) hv69 (shr64 _ hv69))) ?_
        refine lst_shr rfl rfl rfl (by omega) (fdiv_shr (v69 ^^^ (v69 >>> (min 32 64))) 9 _) ?_
        refine lst_assign rfl rfl ?_
        refine lst_nil ?_
        refine ex_then ?_
        refine cod_ret ?_
        exact ex_ret rfl (fun a w ha => res_one rfl rfl ha) (fun _ _ ha' => ⟨s2, _, hs2, shr64 _ (xor64 hv69 (shr64 _ hv69)), rfl, ha.back (ha'.pck (by repeat (first | exact Pck.nil _ | exact Pck.refl _ | (apply Pck.cons; focus ((repeat (first | exact Rem.here _ | apply Rem.there)); done)) | refine Pck.skip _ ?_)))⟩)
  · skip
    obtain ⟨q, hqe⟩ : ∃ q, q = v10 := ⟨_, rfl⟩
    have hq : q < 18446744073709551616 := by rw [hqe]; exact hv10
    rw [← hqe]
    refine cod_skip ?_
    refine ex_then ?_
    refine cod_seq ?_
    refine cod_region ?_
    refine lst_move rfl rfl ?_
    refine lst_nilCheck rfl rfl ?_
    refine lst_field_z rfl rfl F.fi52_1 F.ti3 ?_
    refine lst_load rfl rfl F.one3 ?_
    refine lst_int rfl rfl rfl (fun w => bin_add w (show IntKind.i64.wrap ((tk : Int) + 1) = ((tk + 1 : Nat) : Int) from wrap_i64' _ (by omega) (by omega))) ?_
    refine lst_nilCheck rfl rfl ?_
    refine lst_field_z rfl rfl F.fi52_1 F.ti3 ?_
    refine lst_store rfl rfl F.ti3 rfl ?_
    refine lst_nil ?_
    refine ex_then ?_
    refine cod_seq ?_
    refine cod_region ?_
    refine lst_move rfl rfl ?_
    refine lst_move rfl rfl ?_
    refine lst_nilCheck rfl rfl ?_
    refine lst_field_z rfl rfl F.fi52_2 F.ti50 ?_
    refine lst_load rfl rfl F.one50 ?_
    refine lst_move rfl rfl ?_
    refine lst_int rfl rfl rfl (fun w => bin_xor w (u64_xor st q hst hq)) ?_
    obtain ⟨v49, hv49, ev49⟩ := u64_some (((st ^^^ q : Nat) : Int) * 10723151780598845931)
    refine lst_int rfl rfl rfl (fun w => bin_mul w ev49) ?_
    refine lst_nilCheck rfl rfl ?_
    refine lst_field_z rfl rfl F.fi52_2 F.ti50 ?_
    refine lst_store rfl rfl F.ti50 rfl ?_
    refine lst_nil ?_
    refine ex_then ?_
    refine cod_seq ?_
    refine any_begin [.b hb] F.follows 14 rfl [false, false, false, false, false, false, false, false, false, false, false, false, false, false] rfl ?_
    refine any_take (listed' := [true, false, false, false, false, false, false, false, false, false, false, false, false, false].toArray) 0 rfl rfl rfl (by kernel_rfl) (by kernel_rfl) (by kernel_rfl) (by repeat (first | exact List.Sublist.refl _ | exact List.nil_sublist _ | refine List.Sublist.cons_cons _ ?_ | refine List.Sublist.cons _ ?_)) (yld_move rfl) rfl ?_
    refine any_take (listed' := [true, true, false, false, false, false, false, false, false, false, false, false, false, false].toArray) 1 rfl rfl rfl (by kernel_rfl) (by kernel_rfl) (by kernel_rfl) (by repeat (first | exact List.Sublist.refl _ | exact List.nil_sublist _ | refine List.Sublist.cons_cons _ ?_ | refine List.Sublist.cons _ ?_)) (yld_move rfl) rfl ?_
    refine any_take (listed' := [true, true, true, false, false, false, false, false, false, false, false, false, false, false].toArray) 2 rfl rfl rfl (by kernel_rfl) (by kernel_rfl) (by kernel_rfl) (by repeat (first | exact List.Sublist.refl _ | exact List.nil_sublist _ | refine List.Sublist.cons_cons _ ?_ | refine List.Sublist.cons _ ?_)) (yld_nilCheck rfl) rfl ?_
    refine any_take (listed' := [true, true, true, true, false, false, false, false, false, false, false, false, false, false].toArray) 3 rfl rfl rfl (by kernel_rfl) (by kernel_rfl) (by kernel_rfl) (by repeat (first | exact List.Sublist.refl _ | exact List.nil_sublist _ | refine List.Sublist.cons_cons _ ?_ | refine List.Sublist.cons _ ?_)) (yld_field_z rfl F.fi52_2 F.ti50) rfl ?_
    refine any_take (listed' := [true, true, true, true, false, true, false, false, false, false, false, false, false, false].toArray) 5 rfl rfl rfl (by kernel_rfl) (by kernel_rfl) (by kernel_rfl) (by repeat (first | exact List.Sublist.refl _ | exact List.nil_sublist _ | refine List.Sublist.cons_cons _ ?_ | refine List.Sublist.cons _ ?_)) (yld_move rfl) rfl ?_
    refine any_take (listed' := [true, true, true, true, false, true, true, false, false, false, false, false, false, false].toArray) 6 rfl rfl rfl (by kernel_rfl) (by kernel_rfl) (by kernel_rfl) (by repeat (first | exact List.Sublist.refl _ | exact List.nil_sublist _ | refine List.Sublist.cons_cons _ ?_ | refine List.Sublist.cons _ ?_)) (yld_nilCheck rfl) rfl ?_
    refine any_take (listed' := [true, true, true, true, false, true, true, true, false, false, false, false, false, false].toArray) 7 rfl rfl rfl (by kernel_rfl) (by kernel_rfl) (by kernel_rfl) (by repeat (first | exact List.Sublist.refl _ | exact List.nil_sublist _ | refine List.Sublist.cons_cons _ ?_ | refine List.Sublist.cons _ ?_)) (yld_field_z rfl F.fi52_2 F.ti50) rfl ?_
    refine any_two (l1 := [true, true, true, true, true, true, true, true, false, false, false, false, false, false].toArray) (l2 := [true, true, true, true, false, true, true, true, true, false, false, false, false, false].toArray) 4 8 (by kernel_rfl) rfl rfl rfl rfl ?_ ?_
    · skip
      refine lst_load rfl rfl F.one50 ?_
      refine lst_nil ?_
      refine any_next (by repeat (first | exact List.Sublist.refl _ | exact List.nil_sublist _ | refine List.Sublist.cons_cons _ ?_ | refine List.Sublist.cons _ ?_)) ?_
      refine any_one (listed' := [true, true, true, true, true, true, true, true, true, false, false, false, false, false].toArray) 8 (by kernel_rfl) rfl rfl ?_
      refine lst_load rfl rfl F.one50 ?_
      refine lst_nil ?_
      refine any_next (by repeat (first | exact List.Sublist.refl _ | exact List.nil_sublist _ | refine List.Sublist.cons_cons _ ?_ | refine List.Sublist.cons _ ?_)) ?_
      refine any_one (listed' := [true, true, true, true, true, true, true, true, true, true, false, false, false, false].toArray) 9 (by kernel_rfl) rfl rfl ?_
      refine lst_shr rfl rfl rfl (by omega) (fdiv_shr v49 31 _) ?_
      refine lst_nil ?_
      refine any_next (by repeat (first | exact List.Sublist.refl _ | exact List.nil_sublist _ | refine List.Sublist.cons_cons _ ?_ | refine List.Sublist.cons _ ?_)) ?_
      refine any_one (listed' := [true, true, true, true, true, true, true, true, true, true, true, false, false, false].toArray) 10 (by kernel_rfl) rfl rfl ?_
      refine lst_int rfl rfl rfl (fun w => bin_xor w (u64_xor v49 (v49 >>> (min 31 64)) hv49 (shr64 _ hv49))) ?_
      refine lst_nil ?_
      refine any_next (by repeat (first | exact List.Sublist.refl _ | exact List.nil_sublist _ | refine List.Sublist.cons_cons _ ?_ | refine List.Sublist.cons _ ?_)) ?_
      refine any_take (listed' := [true, true, true, true, true, true, true, true, true, true, true, true, false, false].toArray) 11 rfl rfl rfl (by kernel_rfl) (by kernel_rfl) (by kernel_rfl) (by repeat (first | exact List.Sublist.refl _ | exact List.nil_sublist _ | refine List.Sublist.cons_cons _ ?_ | refine List.Sublist.cons _ ?_)) (yld_nilCheck rfl) rfl ?_
      refine any_take (listed' := [true, true, true, true, true, true, true, true, true, true, true, true, true, false].toArray) 12 rfl rfl rfl (by kernel_rfl) (by kernel_rfl) (by kernel_rfl) (by repeat (first | exact List.Sublist.refl _ | exact List.nil_sublist _ | refine List.Sublist.cons_cons _ ?_ | refine List.Sublist.cons _ ?_)) (yld_field_z rfl F.fi52_2 F.ti50) rfl ?_
      refine any_one (listed' := [true, true, true, true, true, true, true, true, true, true, true, true, true, true].toArray) 13 (by kernel_rfl) rfl rfl ?_
      refine lst_store rfl rfl F.ti50 rfl ?_
      refine lst_nil ?_
      refine any_next (by repeat (first | exact List.Sublist.refl _ | exact List.nil_sublist _ | refine List.Sublist.cons_cons _ ?_ | refine List.Sublist.cons _ ?_)) ?_
      refine any_done rfl (by kernel_rfl) ?_
      refine ex_then ?_
      refine cod_seq ?_
      refine cod_region ?_
      obtain ⟨s2, hs2e⟩ : ∃ s2, s2 = v49 ^^^ (v49 >>> (min 31 64)) := ⟨_, rfl⟩
      have hs2 : s2 < 18446744073709551616 := by rw [hs2e]; exact xor64 hv49 (shr64 _ hv49)
      rw [← hs2e]
      obtain ⟨v69, hv69, ev69⟩ := u64_some ((s2 : Int) * 15485907386658061715)
      refine lst_move rfl rfl ?_
      refine lst_nilCheck rfl rfl ?_
      refine lst_field_z rfl rfl F.fi52_2 F.ti50 ?_
      refine lst_load rfl rfl F.one50 ?_
      refine lst_int rfl rfl rfl (fun w => bin_mul w ev69) ?_
      refine lst_assign rfl rfl ?_
      refine lst_nil ?_
      refine ex_then ?_
      refine cod_seq ?_
      refine cod_region ?_
      refine lst_move rfl rfl ?_
      refine lst_move rfl rfl ?_
      refine lst_shr rfl rfl rfl (by omega) (fdiv_shr v69 32 _) ?_
      refine lst_int rfl rfl rfl (fun w => bin_xor w (u64_xor v69 (v69 >>> (min 32 64)) hv69 (shr64 _ hv69))) ?_
      refine lst_shr rfl rfl rfl (by omega) (fdiv_shr (v69 ^^^ (v69 >>> (min 32 64))) 9 _) ?_
      refine lst_assign rfl rfl ?_
      refine lst_nil ?_
      refine ex_then ?_
      refine cod_ret ?_
      exact ex_ret rfl (fun a w ha => res_one rfl rfl ha) (fun _ _ ha' => ⟨s2, _, hs2, shr64 _ (xor64 hv69 (shr64 _ hv69)), rfl, ha.back (ha'.pck (by repeat (first | exact Pck.nil _ | exact Pck.refl _ | (apply Pck.cons; focus ((repeat (first | exact Rem.here _ | apply Rem.there)); done)) | refine Pck.skip _ ?_)))⟩)
    · skip
      refine lst_load rfl rfl F.one50 ?_
      refine lst_nil ?_
      refine any_next (by repeat (first | exact List.Sublist.refl _ | exact List.nil_sublist _ | refine List.Sublist.cons_cons _ ?_ | refine List.Sublist.cons _ ?_)) ?_
      refine any_two (l1 := [true, true, true, true, true, true, true, true, true, false, false, false, false, false].toArray) (l2 := [true, true, true, true, false, true, true, true, true, true, false, false, false, false].toArray) 4 9 (by kernel_rfl) rfl rfl rfl rfl ?_ ?_
      · skip
        refine lst_load rfl rfl F.one50 ?_
        refine lst_nil ?_
        refine any_next (by repeat (first | exact List.Sublist.refl _ | exact List.nil_sublist _ | refine List.Sublist.cons_cons _ ?_ | refine List.Sublist.cons _ ?_)) ?_
        refine any_one (listed' := [true, true, true, true, true, true, true, true, true, true, false, false, false, false].toArray) 9 (by kernel_rfl) rfl rfl ?_
        refine lst_shr rfl rfl rfl (by omega) (fdiv_shr v49 31 _) ?_
        refine lst_nil ?_
        refine any_next (by repeat (first | exact List.Sublist.refl _ | exact List.nil_sublist _ | refine List.Sublist.cons_cons _ ?_ | refine List.Sublist.cons _ ?_)) ?_
        refine any_one (listed' := [true, true, true, true, true, true, true, true, true, true, true, false, false, false].toArray) 10 (by kernel_rfl) rfl rfl ?_
        refine lst_int rfl rfl rfl (fun w => bin_xor w (u64_xor v49 (v49 >>> (min 31 64)) hv49 (shr64 _ hv49))) ?_
        refine lst_nil ?_
        refine any_next (by repeat (first | exact List.Sublist.refl _ | exact List.nil_sublist _ | refine List.Sublist.cons_cons _ ?_ | refine List.Sublist.cons _ ?_)) ?_
        refine any_take (listed' := [true, true, true, true, true, true, true, true, true, true, true, true, false, false].toArray) 11 rfl rfl rfl (by kernel_rfl) (by kernel_rfl) (by kernel_rfl) (by repeat (first | exact List.Sublist.refl _ | exact List.nil_sublist _ | refine List.Sublist.cons_cons _ ?_ | refine List.Sublist.cons _ ?_)) (yld_nilCheck rfl) rfl ?_
        refine any_take (listed' := [true, true, true, true, true, true, true, true, true, true, true, true, true, false].toArray) 12 rfl rfl rfl (by kernel_rfl) (by kernel_rfl) (by kernel_rfl) (by repeat (first | exact List.Sublist.refl _ | exact List.nil_sublist _ | refine List.Sublist.cons_cons _ ?_ | refine List.Sublist.cons _ ?_)) (yld_field_z rfl F.fi52_2 F.ti50) rfl ?_
        refine any_one (listed' := [true, true, true, true, true, true, true, true, true, true, true, true, true, true].toArray) 13 (by kernel_rfl) rfl rfl ?_
        refine lst_store rfl rfl F.ti50 rfl ?_
        refine lst_nil ?_
        refine any_next (by repeat (first | exact List.Sublist.refl _ | exact List.nil_sublist _ | refine List.Sublist.cons_cons _ ?_ | refine List.Sublist.cons _ ?_)) ?_
        refine any_done rfl (by kernel_rfl) ?_
        refine ex_then ?_
        refine cod_seq ?_
        refine cod_region ?_
        obtain ⟨s2, hs2e⟩ : ∃ s2, s2 = v49 ^^^ (v49 >>> (min 31 64)) := ⟨_, rfl⟩
        have hs2 : s2 < 18446744073709551616 := by rw [hs2e]; exact xor64 hv49 (shr64 _ hv49)
        rw [← hs2e]
        obtain ⟨v69, hv69, ev69⟩ := u64_some ((s2 : Int) * 15485907386658061715)
        refine lst_move rfl rfl ?_
        refine lst_nilCheck rfl rfl ?_
        refine lst_field_z rfl rfl F.fi52_2 F.ti50 ?_
        refine lst_load rfl rfl F.one50 ?_
        refine lst_int rfl rfl rfl (fun w => bin_mul w ev69) ?_
        refine lst_assign rfl rfl ?_
        refine lst_nil ?_
        refine ex_then ?_
        refine cod_seq ?_
        refine cod_region ?_
        refine lst_move rfl rfl ?_
        refine lst_move rfl rfl ?_
        refine lst_shr rfl rfl rfl (by omega) (fdiv_shr v69 32 _) ?_
        refine lst_int rfl rfl rfl (fun w => bin_xor w (u64_xor v69 (v69 >>> (min 32 64)) hv69 (shr64 _ hv69))) ?_
        refine lst_shr rfl rfl rfl (by omega) (fdiv_shr (v69 ^^^ (v69 >>> (min 32 64))) 9 _) ?_
        refine lst_assign rfl rfl ?_
        refine lst_nil ?_
        refine ex_then ?_
        refine cod_ret ?_
        exact ex_ret rfl (fun a w ha => res_one rfl rfl ha) (fun _ _ ha' => ⟨s2, _, hs2, shr64 _ (xor64 hv69 (shr64 _ hv69)), rfl, ha.back (ha'.pck (by repeat (first | exact Pck.nil _ | exact Pck.refl _ | (apply Pck.cons; focus ((repeat (first | exact Rem.here _ | apply Rem.there)); done)) | refine Pck.skip _ ?_)))⟩)
      · skip
        refine lst_shr rfl rfl rfl (by omega) (fdiv_shr v49 31 _) ?_
        refine lst_nil ?_
        refine any_next (by repeat (first | exact List.Sublist.refl _ | exact List.nil_sublist _ | refine List.Sublist.cons_cons _ ?_ | refine List.Sublist.cons _ ?_)) ?_
        refine any_one (listed' := [true, true, true, true, true, true, true, true, true, true, false, false, false, false].toArray) 4 (by kernel_rfl) rfl rfl ?_
        refine lst_load rfl rfl F.one50 ?_
        refine lst_nil ?_
        refine any_next (by repeat (first | exact List.Sublist.refl _ | exact List.nil_sublist _ | refine List.Sublist.cons_cons _ ?_ | refine List.Sublist.cons _ ?_)) ?_
        refine any_one (listed' := [true, true, true, true, true, true, true, true, true, true, true, false, false, false].toArray) 10 (by kernel_rfl) rfl rfl ?_
        refine lst_int rfl rfl rfl (fun w => bin_xor w (u64_xor v49 (v49 >>> (min 31 64)) hv49 (shr64 _ hv49))) ?_
        refine lst_nil ?_
        refine any_next (by repeat (first | exact List.Sublist.refl _ | exact List.nil_sublist _ | refine List.Sublist.cons_cons _ ?_ | refine List.Sublist.cons _ ?_)) ?_
        refine any_take (listed' := [true, true, true, true, true, true, true, true, true, true, true, true, false, false].toArray) 11 rfl rfl rfl (by kernel_rfl) (by kernel_rfl) (by kernel_rfl) (by repeat (first | exact List.Sublist.refl _ | exact List.nil_sublist _ | refine List.Sublist.cons_cons _ ?_ | refine List.Sublist.cons _ ?_)) (yld_nilCheck rfl) rfl ?_
        refine any_take (listed' := [true, true, true, true, true, true, true, true, true, true, true, true, true, false].toArray) 12 rfl rfl rfl (by kernel_rfl) (by kernel_rfl) (by kernel_rfl) (by repeat (first | exact List.Sublist.refl _ | exact List.nil_sublist _ | refine List.Sublist.cons_cons _ ?_ | refine List.Sublist.cons _ ?_)) (yld_field_z rfl F.fi52_2 F.ti50) rfl ?_
        refine any_one (listed' := [true, true, true, true, true, true, true, true, true, true, true, true, true, true].toArray) 13 (by kernel_rfl) rfl rfl ?_
        refine lst_store rfl rfl F.ti50 rfl ?_
        refine lst_nil ?_
        refine any_next (by repeat (first | exact List.Sublist.refl _ | exact List.nil_sublist _ | refine List.Sublist.cons_cons _ ?_ | refine List.Sublist.cons _ ?_)) ?_
        refine any_done rfl (by kernel_rfl) ?_
        refine ex_then ?_
        refine cod_seq ?_
        refine cod_region ?_
        obtain ⟨s2, hs2e⟩ : ∃ s2, s2 = v49 ^^^ (v49 >>> (min 31 64)) := ⟨_, rfl⟩
        have hs2 : s2 < 18446744073709551616 := by rw [hs2e]; exact xor64 hv49 (shr64 _ hv49)
        rw [← hs2e]
        obtain ⟨v69, hv69, ev69⟩ := u64_some ((s2 : Int) * 15485907386658061715)
        refine lst_move rfl rfl ?_
        refine lst_nilCheck rfl rfl ?_
        refine lst_field_z rfl rfl F.fi52_2 F.ti50 ?_
        refine lst_load rfl rfl F.one50 ?_
        refine lst_int rfl rfl rfl (fun w => bin_mul w ev69) ?_
        refine lst_assign rfl rfl ?_
        refine lst_nil ?_
        refine ex_then ?_
        refine cod_seq ?_
        refine cod_region ?_
        refine lst_move rfl rfl ?_
        refine lst_move rfl rfl ?_
        refine lst_shr rfl rfl rfl (by omega) (fdiv_shr v69 32 _) ?_
        refine lst_int rfl rfl rfl (fun w => bin_xor w (u64_xor v69 (v69 >>> (min 32 64)) hv69 (shr64 _ hv69))) ?_
        refine lst_shr rfl rfl rfl (by omega) (fdiv_shr (v69 ^^^ (v69 >>> (min 32 64))) 9 _) ?_
        refine lst_assign rfl rfl ?_
        refine lst_nil ?_
        refine ex_then ?_
        refine cod_ret ?_
        exact ex_ret rfl (fun a w ha => res_one rfl rfl ha) (fun _ _ ha' => ⟨s2, _, hs2, shr64 _ (xor64 hv69 (shr64 _ hv69)), rfl, ha.back (ha'.pck (by repeat (first | exact Pck.nil _ | exact Pck.refl _ | (apply Pck.cons; focus ((repeat (first | exact Rem.here _ | apply Rem.there)); done)) | refine Pck.skip _ ?_)))⟩)

theorem To_c {C : Ctx} {fr : List (Nat × Value)} {T : List Res} {a : Act} {w : World} (hC : C.P = Tryd.prog) {hb tk st nc : Nat} {nA : Option Addr} {nums : List Int} (hB : C.w0.heap.size = C.B) (hN : RdL icell 1 C.w0 nA nums) (htk : tk ≤ 1000000) (hst : st < 18446744073709551616) {n : Int} (hn : n ≤ 1000000)  (ha : At C fr (.blk hb (.cells [.slice nA nums.length nc, .int .i64 (tk : Int), .int .u64 (st : Int)].toArray 52 (0, 0)) :: T) a w) : Calls C.P 6 #[.pointer (some ⟨hb, 0, none⟩), .int .i64 n] w fun e w' => ∃ st' x : Nat, st' < 18446744073709551616 ∧ x ≤ n.toNat ∧ e = .returned (.int .i64 (x : Int)) ∧ At C fr (.blk hb (.cells [.slice nA nums.length nc, .int .i64 ((tk + 1 : Nat) : Int), .int .u64 (st' : Int)].toArray 52 (0, 0)) :: T) a w' := by
  obtain ⟨P, B, w0, N0, ds⟩ := C
  obtain rfl : P = Tryd.prog := hC
  (try dsimp only at hB)
  (try dsimp only at hN)
  refine enter_in (N := 16) [(0, .pointer (some ⟨hb, 0, none⟩)), (1, .int .i64 n)] ha Tryd.func6 rfl Tryd.ntmps6 rfl rfl ?_
  refine cod_seq ?_
  refine cod_region ?_
  refine lst_assign rfl rfl ?_
  refine lst_nil ?_
  refine ex_then ?_
  refine cod_seq ?_
  refine cod_region ?_
  refine lst_move rfl rfl ?_
  refine lst_call (X := Nat × Nat) (first := []) (cap := []) (vs := [_]) (p := fun y => y.1 < 18446744073709551616 ∧ y.2 < 18446744073709551616) (val := fun y => .int .u64 (y.2 : Int)) (rs := fun y => .blk hb (.cells [.slice nA nums.length nc, .int .i64 ((tk + 1 : Nat) : Int), .int .u64 (y.1 : Int)].toArray 52 (0, 0)) :: T) rfl rfl rfl F.ent18 (fun a w ha => (stir_c (C := ⟨Tryd.prog, B, w0, _, _⟩) rfl hB hN htk hst ha).mono (fun e w' h => by obtain ⟨s', x, h1, h2, h3, h4⟩ := h; exact ⟨(s', x), ⟨h1, h2⟩, h3, h4⟩)) ?_
  rintro ⟨s1, x⟩ ⟨hs1, hx⟩
  dsimp only at hs1 hx ⊢
  refine lst_assign rfl rfl ?_
  refine lst_nil ?_
  refine ex_then ?_
  refine cod_seq ?_
  refine cod_seq ?_
  refine cod_region ?_
  refine lst_move rfl rfl ?_
  refine lst_int rfl rfl rfl bin_lss ?_
  refine lst_nil ?_
  refine ex_then ?_
  refine cod_cond_dec rfl (fun hc0 => ?_) (fun hc0 => ?_)
  · skip
    refine cod_seq ?_
    refine cod_region ?_
    refine lst_assign rfl rfl ?_
    refine lst_nil ?_
    refine ex_then ?_
    refine cod_ret ?_
    refine ex_then_ret ?_
    exact ex_ret rfl (fun a w ha => res_one rfl rfl ha) (fun _ _ ha' => ⟨s1, 0, hs1, Nat.zero_le _, rfl, ha.back (ha'.pck (by repeat (first | exact Pck.nil _ | exact Pck.refl _ | (apply Pck.cons; focus ((repeat (first | exact Rem.here _ | apply Rem.there)); done)) | refine Pck.skip _ ?_)))⟩)
  · skip
    obtain ⟨m, rfl⟩ := Int.eq_ofNat_of_zero_le (show 0 ≤ n by omega)
    refine cod_skip ?_
    refine ex_then ?_
    refine cod_seq ?_
    refine cod_region ?_
    refine lst_move rfl rfl ?_
    refine lst_move rfl rfl ?_
    refine lst_convert rfl rfl Tryd.underlying3 Tryd.underlying50 (wrap_u64 m (by omega)) ?_
    refine lst_int rfl rfl rfl (fun w => bin_add w (wrap_u64_succ (by omega))) ?_
    refine lst_int rfl rfl rfl (fun w => bin_rem w (by omega) (tmod_nat x (m + 1))) ?_
    have hmod : x % (m + 1) < m + 1 := Nat.mod_lt _ (by omega)
    refine lst_convert rfl rfl Tryd.underlying50 Tryd.underlying3 (wrap_i64' _ (by omega) (by omega)) ?_
    refine lst_assign rfl rfl ?_
    refine lst_nil ?_
    refine ex_then ?_
    refine cod_ret ?_
    exact ex_ret rfl (fun a w ha => res_one rfl rfl ha) (fun _ _ ha' => ⟨s1, x % (m + 1), hs1, by rw [Int.toNat_natCast]; omega, rfl, ha.back (ha'.pck (by repeat (first | exact Pck.nil _ | exact Pck.refl _ | (apply Pck.cons; focus ((repeat (first | exact Rem.here _ | apply Rem.there)); done)) | refine Pck.skip _ ?_)))⟩)

theorem From_c {C : Ctx} {fr : List (Nat × Value)} {T : List Res} {a : Act} {w : World} (hC : C.P = Tryd.prog) {hb tk st nc : Nat} {nA : Option Addr} {nums : List Int} (hB : C.w0.heap.size = C.B) (hN : RdL icell 1 C.w0 nA nums) (htk : tk ≤ 1000000) (hst : st < 18446744073709551616) {lo hi : Int} (hlh : lo ≤ hi) (hhi : hi ≤ 1000) (hlo : -1000 ≤ lo) (ha : At C fr (.blk hb (hatO nA nums.length nc (tk) (st)) :: T) a w) : Calls C.P 15 #[.pointer (some ⟨hb, 0, none⟩), .int .i64 lo, .int .i64 hi] w fun e w' => ∃ (st' : Nat) (x : Int), st' < 18446744073709551616 ∧ lo ≤ x ∧ x ≤ hi ∧ e = .returned (.int .i64 x) ∧ At C fr (.blk hb (hatO nA nums.length nc (tk + 1) (st')) :: T) a w' := by
  obtain ⟨P, B, w0, N0, ds⟩ := C
  obtain rfl : P = Tryd.prog := hC
  (try dsimp only at hB)
  (try dsimp only at hN)
  refine enter_in (N := 14) [(0, .pointer (some ⟨hb, 0, none⟩)), (1, .int .i64 lo), (2, .int .i64 hi)] ha Tryd.func15 rfl Tryd.ntmps15 rfl rfl ?_
  refine cod_seq ?_
  refine cod_region ?_
  refine lst_assign rfl rfl ?_
  refine lst_nil ?_
  refine ex_then ?_
  refine cod_seq ?_
  refine cod_region ?_
  refine lst_move rfl rfl ?_
  refine lst_move rfl rfl ?_
  refine lst_move rfl rfl ?_
  refine lst_move rfl rfl ?_
  refine lst_int (v := .int .i64 (hi - lo)) rfl rfl rfl (fun w => bin_sub w (wrap_i64' (hi - lo) (by omega) (by omega))) ?_
  refine lst_call_pul (X := Nat × Nat) (vs := [_, _]) hb (fun y => hatO nA nums.length nc (tk + 1) (y.1)) (fun y => y.1 < 18446744073709551616 ∧ y.2 ≤ (hi - lo : Int).toNat) (fun y => .int .i64 (y.2 : Int)) rfl rfl F.ent6 (fun a w ha => (To_c (C := ⟨Tryd.prog, B, w0, _, _⟩) rfl hB hN (tk := tk) (st := st) (n := hi - lo) (by omega) hst (by omega) ha).mono (fun e w' h => by obtain ⟨s', x, h1, h2, h3, h4⟩ := h; exact ⟨(s', x), ⟨h1, h2⟩, h3, h4⟩)) ?_
  rintro ⟨s1, x1⟩ ⟨hs1, hx1⟩
  (try dsimp only at hs1 hx1 ⊢)
  refine lst_int (v := .int .i64 (lo + (x1 : Int))) rfl rfl rfl (fun w => bin_add w (wrap_i64' _ (by omega) (by omega))) ?_
  refine lst_assign rfl rfl ?_
  refine lst_nil ?_
  refine ex_then ?_
  refine cod_ret ?_
  exact ex_ret rfl (fun a w ha => res_one rfl rfl ha) (fun _ _ ha' => ⟨s1, lo + x1, hs1, by omega, by omega, rfl, ha.back (ha'.pck (by repeat (first | exact Pck.nil _ | exact Pck.refl _ | (apply Pck.cons; focus ((repeat (first | exact Rem.here _ | apply Rem.there)); done)) | refine Pck.skip _ ?_)))⟩)

theorem Seldom_c {C : Ctx} {fr : List (Nat × Value)} {T : List Res} {a : Act} {w : World} (hC : C.P = Tryd.prog) {hb tk st nc : Nat} {nA : Option Addr} {nums : List Int} (hB : C.w0.heap.size = C.B) (hN : RdL icell 1 C.w0 nA nums) (htk : tk ≤ 1000000) (hst : st < 18446744073709551616) {n : Int} (hn0 : 0 ≤ n) (hn : n ≤ 1000) (ha : At C fr (.blk hb (hatO nA nums.length nc (tk) (st)) :: T) a w) : Calls C.P 16 #[.pointer (some ⟨hb, 0, none⟩), .int .i64 n] w fun e w' => ∃ (st' : Nat) (b : Bool), st' < 18446744073709551616 ∧ e = .returned (.bool b) ∧ At C fr (.blk hb (hatO nA nums.length nc (tk + 1) (st')) :: T) a w' := by
  obtain ⟨P, B, w0, N0, ds⟩ := C
  obtain rfl : P = Tryd.prog := hC
  (try dsimp only at hB)
  (try dsimp only at hN)
  refine enter_in (N := 10) [(0, .pointer (some ⟨hb, 0, none⟩)), (1, .int .i64 n)] ha Tryd.func16 rfl Tryd.ntmps16 rfl rfl ?_
  refine cod_seq ?_
  refine cod_region ?_
  refine lst_assign rfl rfl ?_
  refine lst_nil ?_
  refine ex_then ?_
  refine cod_seq ?_
  refine cod_region ?_
  refine lst_move rfl rfl ?_
  refine lst_move rfl rfl ?_
  refine lst_int rfl rfl rfl (fun w => bin_sub w (wrap_i64' (n - 1) (by omega) (by omega))) ?_
  refine lst_call_pul (X := Nat × Nat) (vs := [_, _]) hb (fun y => hatO nA nums.length nc (tk + 1) (y.1)) (fun y => y.1 < 18446744073709551616 ∧ y.2 ≤ (n - 1 : Int).toNat) (fun y => .int .i64 (y.2 : Int)) rfl rfl F.ent6 (fun a w ha => (To_c (C := ⟨Tryd.prog, B, w0, _, _⟩) rfl hB hN (tk := tk) (st := st) (n := n - 1) (by omega) hst (by omega) ha).mono (fun e w' h => by obtain ⟨s', x, h1, h2, h3, h4⟩ := h; exact ⟨(s', x), ⟨h1, h2⟩, h3, h4⟩)) ?_
  rintro ⟨s1, x1⟩ ⟨hs1, hx1⟩
  (try dsimp only at hs1 hx1 ⊢)
  refine lst_int rfl rfl rfl bin_eql ?_
  refine lst_assign rfl rfl ?_
  refine lst_nil ?_
  refine ex_then ?_
  refine cod_ret ?_
  exact ex_ret rfl (fun a w ha => res_one rfl rfl ha) (fun _ _ ha' => ⟨s1, _, hs1, rfl, ha.back (ha'.pck (by repeat (first | exact Pck.nil _ | exact Pck.refl _ | (apply Pck.cons; focus ((repeat (first | exact Rem.here _ | apply Rem.there)); done)) | refine Pck.skip _ ?_)))⟩)

theorem One_c {C : Ctx} {fr : List (Nat × Value)} {T : List Res} {a : Act} {w : World} (hC : C.P = Tryd.prog) {hb tk st nc : Nat} {nA : Option Addr} {nums : List Int} (hB : C.w0.heap.size = C.B) (hN : RdL icell 1 C.w0 nA nums) (htk : tk ≤ 1000000) (hst : st < 18446744073709551616) {A : Option Addr} {c : Nat} {l : List Nat} (hl1 : 1 ≤ l.length) (hl2 : l.length ≤ 64) (hR : Rds ncell 1 C T A l) (ha : At C fr (.blk hb (hatO nA nums.length nc (tk) (st)) :: T) a w) : Calls C.P 17 #[.pointer (some ⟨hb, 0, none⟩), .slice A l.length c] w fun e w' => ∃ st' x : Nat, st' < 18446744073709551616 ∧ x ∈ l ∧ e = .returned (.int .i64 (x : Int)) ∧ At C fr (.blk hb (hatO nA nums.length nc (tk + 1) (st')) :: T) a w' := by
  obtain ⟨P, B, w0, N0, ds⟩ := C
  obtain rfl : P = Tryd.prog := hC
  (try dsimp only at hB)
  (try dsimp only at hN)
  refine enter_in (N := 13) [(0, .pointer (some ⟨hb, 0, none⟩)), (1, .slice A l.length c)] ha Tryd.func17 rfl Tryd.ntmps17 rfl rfl ?_
  refine cod_seq ?_
  refine cod_region ?_
  refine lst_assign rfl rfl ?_
  refine lst_nil ?_
  refine ex_then ?_
  refine cod_seq ?_
  refine cod_region ?_
  refine lst_move rfl rfl ?_
  refine lst_move rfl rfl ?_
  refine lst_move rfl rfl ?_
  refine lst_len rfl rfl Tryd.underlying22 ?_
  refine lst_int rfl rfl rfl (fun w => bin_sub w (wrap_i64' ((l.length : Int) - 1) (by omega) (by omega))) ?_
  refine lst_call_pul (X := Nat × Nat) (vs := [_, _]) hb (fun y => hatO nA nums.length nc (tk + 1) (y.1)) (fun y => y.1 < 18446744073709551616 ∧ y.2 ≤ ((l.length : Int) - 1 : Int).toNat) (fun y => .int .i64 (y.2 : Int)) rfl rfl F.ent6 (fun a w ha => (To_c (C := ⟨Tryd.prog, B, w0, _, _⟩) rfl hB hN (tk := tk) (st := st) (n := (l.length : Int) - 1) (by omega) hst (by omega) ha).mono (fun e w' h => by obtain ⟨s', x, h1, h2, h3, h4⟩ := h; exact ⟨(s', x), ⟨h1, h2⟩, h3, h4⟩)) ?_
  rintro ⟨s1, x1⟩ ⟨hs1, hx1⟩
  (try dsimp only at hs1 hx1 ⊢)
  refine lst_know (φ := ∃ b o, A = some ⟨b, o, none⟩) (fun a w ha => by obtain ⟨b, o, h1, _⟩ := (hR _ _ _ _ _ ha rfl rfl rfl (fun r hr => by simp [hr])) (by omega); exact ⟨b, o, h1⟩) (fun hA => ?_)
  obtain ⟨b, o, rfl⟩ := hA
  have hx1 : x1 < l.length := by omega
  obtain ⟨x, hx⟩ : ∃ x, l[x1]? = some x := ⟨_, List.getElem?_eq_getElem hx1⟩
  refine lst_index (j := x1) rfl rfl rfl Tryd.underlying22 F.ti3 rfl hx1 ?_
  refine lst_load_at (v := .int .i64 (x : Int)) rfl rfl F.one3 (fun a w ha => by obtain ⟨b2, o2, h1, _, h3⟩ := (hR _ _ _ _ _ ha rfl rfl rfl (fun r hr => by simp [hr])) (by omega); cases h1; exact h3 x1 x hx 0 _ rfl) ?_
  refine lst_assign rfl rfl ?_
  refine lst_nil ?_
  refine ex_then ?_
  refine cod_ret ?_
  exact ex_ret rfl (fun a w ha => res_one rfl rfl ha) (fun _ _ ha' => ⟨s1, x, hs1, List.mem_of_getElem? hx, rfl, ha.back (ha'.pck (by repeat (first | exact Pck.nil _ | exact Pck.refl _ | (apply Pck.cons; focus ((repeat (first | exact Rem.here _ | apply Rem.there)); done)) | refine Pck.skip _ ?_)))⟩)

theorem NewHat_c (nA : Option Addr) (n nc : Nat) (w : World) : Calls Tryd.prog 4 #[.slice nA n nc] w fun e w' => ∃ b, e = .returned (.pointer (some ⟨b, 0, none⟩)) ∧ Grew w w' [.blk b (hatO nA n nc 0 11400714819323198485)] := by
  refine enter (N := 6) [(0, .slice nA n nc)] Tryd.func4 rfl Tryd.ntmps4 rfl rfl ?_
  refine cod_seq ?_
  refine cod_region ?_
  refine lst_assign rfl rfl ?_
  refine lst_nil ?_
  refine ex_then ?_
  refine cod_seq ?_
  refine cod_region ?_
  refine lst_move rfl rfl ?_
  refine lst_struct (vs := [(0, _), (2, _)]) (l' := [_, _, _]) rfl rfl F.ti52 F.pl52 (.cons rfl rfl (.cons rfl rfl (.nil _))) rfl ?_
  refine lst_box rfl rfl ?_
  intro b5
  refine lst_assign rfl rfl ?_
  refine lst_nil ?_
  refine ex_then ?_
  refine cod_ret ?_
  exact ex_ret rfl (fun a w ha => res_one rfl rfl ha) (fun a w ha => ⟨b5, rfl, ha.grown (by repeat (first | exact List.Sublist.refl _ | exact List.nil_sublist _ | refine List.Sublist.cons_cons _ ?_ | refine List.Sublist.cons _ ?_))⟩)

theorem eqInts_c (A B : Option Addr) (c c2 : Nat) (l m : List Int) (hl : l.length ≤ 140737488355328) (w : World) (hA : RdL icell 1 w A l) (hB : RdL icell 1 w B m) : Calls Tryd.prog 14 #[.slice A l.length c, .slice B m.length c2] w fun e w' => e = .returned (.bool (decide (l = m))) ∧ Grew w w' [] := by
  refine enter (N := 32) [(0, .slice A l.length c), (1, .slice B m.length c2)] Tryd.func14 rfl Tryd.ntmps14 rfl rfl ?_
  refine cod_seq ?_
  refine cod_region ?_
  refine lst_assign rfl rfl ?_
  refine lst_nil ?_
  refine ex_then ?_
  refine cod_seq ?_
  refine cod_seq ?_
  refine cod_region ?_
  refine lst_assign rfl rfl ?_
  refine lst_nil ?_
  refine ex_then ?_
  refine cod_block ?_
  refine cod_loop (G := Nat) (fun k => k ≤ l.length ∧ k ≤ m.length ∧ l.take k = m.take k) (fun k => l.length - k) (fun k => [(0, .slice A l.length c), (1, .slice B m.length c2), (5, .int .i64 (k : Int))]) (fun k => []) 0 ⟨Nat.zero_le _, Nat.zero_le _, rfl⟩ (by repeat (first | exact Sub.nil _ | refine Sub.cons rfl ?_)) (by repeat (first | exact List.Sublist.refl _ | exact List.nil_sublist _ | refine List.Sublist.cons_cons _ ?_ | refine List.Sublist.cons _ ?_)) ?_
  intro k hk
  (try dsimp only at hk ⊢)
  refine cod_seq ?_
  refine cod_seq ?_
  refine cod_region ?_
  refine lst_cut1 10 15 (.bool (decide ((k : Int) < (l.length : Int)) && decide ((k : Int) < (m.length : Int)))) ?_ ?_
  · skip
    refine lst_move rfl rfl ?_
    refine lst_move rfl rfl ?_
    refine lst_len rfl rfl Tryd.underlying22 ?_
    refine lst_int rfl rfl rfl bin_lss ?_
    refine lst_move rfl rfl ?_
    refine lst_split (t := 10) rfl (fun hg10 => ?_) (fun hg10 => ?_)
    · skip
      refine lst_on rfl rfl ?_
      refine lst_move rfl rfl ?_
      refine lst_on rfl rfl ?_
      refine lst_move rfl rfl ?_
      refine lst_on rfl rfl ?_
      refine lst_len rfl rfl Tryd.underlying22 ?_
      refine lst_on rfl rfl ?_
      refine lst_int rfl rfl rfl bin_lss ?_
      refine lst_pick_true rfl rfl rfl ?_
      refine lst_nil ?_
      exact ex_cut (.cons (by first | rfl | simp [look, *]) (by repeat (first | exact Sub.nil _ | refine Sub.cons rfl ?_))) (by repeat (first | exact List.Sublist.refl _ | exact List.nil_sublist _ | refine List.Sublist.cons_cons _ ?_ | refine List.Sublist.cons _ ?_))
    · skip
      refine lst_off rfl rfl rfl ?_
      refine lst_off rfl rfl rfl ?_
      refine lst_off rfl rfl rfl ?_
      refine lst_off rfl rfl rfl ?_
      refine lst_pick_false rfl rfl rfl ?_
      refine lst_nil ?_
      exact ex_cut (.cons (by first | rfl | simp [look, *]) (by repeat (first | exact Sub.nil _ | refine Sub.cons rfl ?_))) (by repeat (first | exact List.Sublist.refl _ | exact List.nil_sublist _ | refine List.Sublist.cons_cons _ ?_ | refine List.Sublist.cons _ ?_))
  refine lst_nil ?_
  refine ex_then ?_
  refine cod_cond_bool rfl (fun hc0 => ?_) (fun hc0 => ?_)
  · skip
    have hb2 : k < l.length ∧ k < m.length := by simp at hc0; omega
    obtain ⟨b, o, rfl, hb, hcell⟩ := hA (by omega)
    obtain ⟨b', o', rfl, hb', hcell'⟩ := hB (by omega)
    obtain ⟨x, hx⟩ : ∃ x, l[k]? = some x := ⟨_, List.getElem?_eq_getElem hb2.1⟩
    obtain ⟨y, hy⟩ : ∃ y, m[k]? = some y := ⟨_, List.getElem?_eq_getElem hb2.2⟩
    refine cod_skip ?_
    refine ex_then ?_
    refine cod_seq ?_
    refine cod_block ?_
    refine cod_seq ?_
    refine any_begin [] F.follows 9 rfl [false, false, false, false, false, false, false, false, false] rfl ?_
    refine any_take (listed' := [true, false, false, false, false, false, false, false, false].toArray) 0 rfl rfl rfl (by kernel_rfl) (by kernel_rfl) (by kernel_rfl) (by repeat (first | exact List.Sublist.refl _ | exact List.nil_sublist _ | refine List.Sublist.cons_cons _ ?_ | refine List.Sublist.cons _ ?_)) (yld_move rfl) rfl ?_
    refine any_take (listed' := [true, true, false, false, false, false, false, false, false].toArray) 1 rfl rfl rfl (by kernel_rfl) (by kernel_rfl) (by kernel_rfl) (by repeat (first | exact List.Sublist.refl _ | exact List.nil_sublist _ | refine List.Sublist.cons_cons _ ?_ | refine List.Sublist.cons _ ?_)) (yld_move rfl) rfl ?_
    refine any_take (listed' := [true, true, true, false, false, false, false, false, false].toArray) 2 rfl rfl rfl (by kernel_rfl) (by kernel_rfl) (by kernel_rfl) (by repeat (first | exact List.Sublist.refl _ | exact List.nil_sublist _ | refine List.Sublist.cons_cons _ ?_ | refine List.Sublist.cons _ ?_)) (yld_index (j := k) rfl rfl Tryd.underlying22 F.ti3 rfl hb2.1) rfl ?_
    refine any_take (listed' := [true, true, true, true, false, false, false, false, false].toArray) 3 rfl rfl rfl (by kernel_rfl) (by kernel_rfl) (by kernel_rfl) (by repeat (first | exact List.Sublist.refl _ | exact List.nil_sublist _ | refine List.Sublist.cons_cons _ ?_ | refine List.Sublist.cons _ ?_)) (yld_load_at (v := .int .i64 x) rfl F.one3 (fun a w ha => ha.old (hcell k x hx 0 _ rfl) hb)) rfl ?_
    refine any_take (listed' := [true, true, true, true, true, false, false, false, false].toArray) 4 rfl rfl rfl (by kernel_rfl) (by kernel_rfl) (by kernel_rfl) (by repeat (first | exact List.Sublist.refl _ | exact List.nil_sublist _ | refine List.Sublist.cons_cons _ ?_ | refine List.Sublist.cons _ ?_)) (yld_move rfl) rfl ?_
    refine any_take (listed' := [true, true, true, true, true, true, false, false, false].toArray) 5 rfl rfl rfl (by kernel_rfl) (by kernel_rfl) (by kernel_rfl) (by repeat (first | exact List.Sublist.refl _ | exact List.nil_sublist _ | refine List.Sublist.cons_cons _ ?_ | refine List.Sublist.cons _ ?_)) (yld_move rfl) rfl ?_
    refine any_take (listed' := [true, true, true, true, true, true, true, false, false].toArray) 6 rfl rfl rfl (by kernel_rfl) (by kernel_rfl) (by kernel_rfl) (by repeat (first | exact List.Sublist.refl _ | exact List.nil_sublist _ | refine List.Sublist.cons_cons _ ?_ | refine List.Sublist.cons _ ?_)) (yld_index (j := k) rfl rfl Tryd.underlying22 F.ti3 rfl hb2.2) rfl ?_
    refine any_take (listed' := [true, true, true, true, true, true, true, true, false].toArray) 7 rfl rfl rfl (by kernel_rfl) (by kernel_rfl) (by kernel_rfl) (by repeat (first | exact List.Sublist.refl _ | exact List.nil_sublist _ | refine List.Sublist.cons_cons _ ?_ | refine List.Sublist.cons _ ?_)) (yld_load_at (v := .int .i64 y) rfl F.one3 (fun a w ha => ha.old (hcell' k y hy 0 _ rfl) hb')) rfl ?_
    refine any_take (listed' := [true, true, true, true, true, true, true, true, true].toArray) 8 rfl rfl rfl (by kernel_rfl) (by kernel_rfl) (by kernel_rfl) (by repeat (first | exact List.Sublist.refl _ | exact List.nil_sublist _ | refine List.Sublist.cons_cons _ ?_ | refine List.Sublist.cons _ ?_)) (yld_int rfl rfl bin_neq) rfl ?_
    refine any_done rfl (by kernel_rfl) ?_
    refine ex_then ?_
    refine cod_cond_dec rfl (fun hc1 => ?_) (fun hc1 => ?_)
    · skip
      refine cod_seq ?_
      refine cod_region ?_
      refine lst_assign rfl rfl ?_
      refine lst_nil ?_
      refine ex_then ?_
      refine cod_ret ?_
      refine ex_block_ret ?_
      refine ex_then_ret ?_
      refine ex_then_ret ?_
      refine ex_block_ret ?_
      refine ex_then_ret ?_
      have hne := eq_ints_ne hx hy hc1
      exact ex_ret rfl (fun a w ha => res_one rfl rfl ha) (fun a w ha => ⟨by rw [decide_eq_false hne], ha.grown (List.nil_sublist _)⟩)
    · skip
      obtain rfl : x = y := Classical.not_not.1 hc1
      refine cod_skip ?_
      refine ex_block_normal ?_
      refine ex_then ?_
      refine cod_region ?_
      refine lst_move rfl rfl ?_
      refine lst_int rfl rfl rfl (fun w => bin_add w (wrap_i64' _ (by omega) (by omega))) ?_
      refine lst_assign rfl rfl ?_
      refine lst_nil ?_
      refine ex_round (k + 1) ⟨by omega, by omega, take_eq_succ hk.2.2 hx hy⟩ (by (try dsimp only); omega) (by repeat (first | exact Sub.nil _ | refine Sub.cons rfl ?_)) (by repeat (first | exact List.Sublist.refl _ | exact List.nil_sublist _ | refine List.Sublist.cons_cons _ ?_ | refine List.Sublist.cons _ ?_))
  · skip
    have hb2 : ¬ (k < l.length ∧ k < m.length) := by simp at hc0; omega
    have he := eq_ints_end hk.1 hk.2.1 hk.2.2 hb2
    refine cod_exit ?_
    refine ex_then_exit ?_
    refine ex_then_exit ?_
    refine ex_block_exit ?_
    refine ex_then ?_
    refine cod_seq ?_
    refine cod_region ?_
    refine lst_move rfl rfl ?_
    refine lst_len rfl rfl Tryd.underlying22 ?_
    refine lst_move rfl rfl ?_
    refine lst_len rfl rfl Tryd.underlying22 ?_
    refine lst_int rfl rfl rfl bin_eql ?_
    refine lst_assign rfl rfl ?_
    refine lst_nil ?_
    refine ex_then ?_
    refine cod_ret ?_
    exact ex_ret rfl (fun a w ha => res_one rfl rfl ha) (fun a w ha => ⟨by rw [he], ha.grown (List.nil_sublist _)⟩)

theorem kSum_c (A : Option Addr) (c : Nat) (l : List Nat) (hs : sumN l ≤ 1000000000) (hl : l.length ≤ 1000000000) (w : World) (hA : RdL ncell 1 w A l) : Calls Tryd.prog 9 #[.slice A l.length c] w fun e w' => e = .returned (.int .i64 ((sumN l : Nat) : Int)) ∧ Grew w w' [] := by
  refine enter (N := 18) [(0, .slice A l.length c)] Tryd.func9 rfl Tryd.ntmps9 rfl rfl ?_
  refine cod_seq ?_
  refine cod_region ?_
  refine lst_assign rfl rfl ?_
  refine lst_nil ?_
  refine ex_then ?_
  refine cod_seq ?_
  refine cod_region ?_
  refine lst_assign rfl rfl ?_
  refine lst_nil ?_
  refine ex_then ?_
  refine cod_seq ?_
  refine cod_seq ?_
  refine cod_region ?_
  refine lst_assign rfl rfl ?_
  refine lst_nil ?_
  refine ex_then ?_
  refine cod_block ?_
  refine cod_loop (G := Nat) (fun k => k ≤ l.length) (fun k => l.length - k) (fun k => [(0, .slice A l.length c), (3, .int .i64 ((sumN (l.take k) : Nat) : Int)), (4, .int .i64 (k : Int))]) (fun k => []) 0 (Nat.zero_le _) (by repeat (first | exact Sub.nil _ | refine Sub.cons rfl ?_)) (by repeat (first | exact List.Sublist.refl _ | exact List.nil_sublist _ | refine List.Sublist.cons_cons _ ?_ | refine List.Sublist.cons _ ?_)) ?_
  intro k hk
  (try dsimp only at hk ⊢)
  refine cod_seq ?_
  refine cod_seq ?_
  refine cod_region ?_
  refine lst_move rfl rfl ?_
  refine lst_move rfl rfl ?_
  refine lst_len rfl rfl Tryd.underlying22 ?_
  refine lst_int rfl rfl rfl bin_lss ?_
  refine lst_nil ?_
  refine ex_then ?_
  refine cod_cond_dec rfl (fun hc0 => ?_) (fun hc0 => ?_)
  · skip
    have hk' : k < l.length := by omega
    obtain ⟨b, o, rfl, hb, hcell⟩ := hA (by omega)
    obtain ⟨x, hx⟩ : ∃ x, l[k]? = some x := ⟨_, List.getElem?_eq_getElem hk'⟩
    have hst : sumN (l.take (k + 1)) = sumN (l.take k) + x := by rw [List.take_add_one, hx]; simp [sumN]
    have hsl := sumN_take l (k + 1)
    refine cod_skip ?_
    refine ex_then ?_
    refine cod_seq ?_
    refine cod_block ?_
    refine cod_region ?_
    refine lst_move rfl rfl ?_
    refine lst_move rfl rfl ?_
    refine lst_move rfl rfl ?_
    refine lst_index (j := k) rfl rfl rfl Tryd.underlying22 F.ti3 rfl hk' ?_
    refine lst_load_at (v := .int .i64 (x : Int)) rfl rfl F.one3 (fun a w ha => ha.old (hcell k x hx 0 _ rfl) hb) ?_
    refine lst_int (v := .int .i64 ((sumN (l.take (k + 1)) : Nat) : Int)) rfl rfl rfl (fun w => bin_add w (by rw [wrap_i64' _ (by omega) (by omega)]; omega)) ?_
    refine lst_assign rfl rfl ?_
    refine lst_nil ?_
    refine ex_block_normal ?_
    refine ex_then ?_
    refine cod_region ?_
    refine lst_move rfl rfl ?_
    refine lst_int rfl rfl rfl (fun w => bin_add w (wrap_i64' _ (by omega) (by omega))) ?_
    refine lst_assign rfl rfl ?_
    refine lst_nil ?_
    refine ex_round (k + 1) (by omega) (by (try dsimp only); omega) (by repeat (first | exact Sub.nil _ | refine Sub.cons rfl ?_)) (by repeat (first | exact List.Sublist.refl _ | exact List.nil_sublist _ | refine List.Sublist.cons_cons _ ?_ | refine List.Sublist.cons _ ?_))
  · skip
    refine cod_exit ?_
    refine ex_then_exit ?_
    refine ex_then_exit ?_
    refine ex_block_exit ?_
    refine ex_then ?_
    refine cod_seq ?_
    refine cod_region ?_
    refine lst_move rfl rfl ?_
    refine lst_assign rfl rfl ?_
    refine lst_nil ?_
    refine ex_then ?_
    refine cod_ret ?_
    obtain rfl : k = l.length := by omega
    exact ex_ret rfl (fun a w ha => res_one rfl rfl ha) (fun a w ha => ⟨by rw [List.take_length], ha.grown (List.nil_sublist _)⟩)

theorem sum_c (A : Option Addr) (c : Nat) (l : List Nat) (hs : sumN l ≤ 1000000000) (hl : l.length ≤ 1000000000) (w : World) (hA : RdL ncell 1 w A l) : Calls Tryd.prog 62 #[.slice A l.length c] w fun e w' => e = .returned (.int .i64 ((sumN l : Nat) : Int)) ∧ Grew w w' [] := by
  refine enter (N := 17) [(0, .slice A l.length c)] Tryd.func62 rfl Tryd.ntmps62 rfl rfl ?_
  refine cod_seq ?_
  refine cod_region ?_
  refine lst_assign rfl rfl ?_
  refine lst_nil ?_
  refine ex_then ?_
  refine cod_seq ?_
  refine cod_region ?_
  refine lst_assign rfl rfl ?_
  refine lst_nil ?_
  refine ex_then ?_
  refine cod_seq ?_
  refine cod_seq ?_
  refine cod_region ?_
  refine lst_move rfl rfl ?_
  refine lst_len rfl rfl Tryd.underlying22 ?_
  refine lst_move rfl rfl ?_
  refine lst_nil ?_
  refine ex_then ?_
  refine cod_block ?_
  refine cod_loop (G := Nat) (fun k => k ≤ l.length) (fun k => l.length - k) (fun k => [(6, .slice A l.length c), (7, .int .i64 (l.length : Int)), (3, .int .i64 ((sumN (l.take k) : Nat) : Int)), (8, .int .i64 (k : Int))]) (fun k => []) 0 (Nat.zero_le _) (by repeat (first | exact Sub.nil _ | refine Sub.cons rfl ?_)) (by repeat (first | exact List.Sublist.refl _ | exact List.nil_sublist _ | refine List.Sublist.cons_cons _ ?_ | refine List.Sublist.cons _ ?_)) ?_
  intro k hk
  (try dsimp only at hk ⊢)
  refine cod_seq ?_
  refine cod_region ?_
  refine lst_int rfl rfl rfl bin_lss ?_
  refine lst_nil ?_
  refine ex_then ?_
  refine cod_seq ?_
  refine cod_cond_dec rfl (fun hc0 => ?_) (fun hc0 => ?_)
  · skip
    have hk' : k < l.length := by omega
    obtain ⟨b, o, rfl, hb, hcell⟩ := hA (by omega)
    obtain ⟨x, hx⟩ : ∃ x, l[k]? = some x := ⟨_, List.getElem?_eq_getElem hk'⟩
    have hst : sumN (l.take (k + 1)) = sumN (l.take k) + x := by rw [List.take_add_one, hx]; simp [sumN]
    have hsl := sumN_take l (k + 1)
    refine cod_skip ?_
    refine ex_then ?_
    refine cod_seq ?_
    refine cod_block ?_
    refine cod_seq ?_
    refine cod_region ?_
    refine lst_index (j := k) rfl rfl rfl Tryd.underlying22 F.ti3 rfl hk' ?_
    refine lst_load_at (v := .int .i64 (x : Int)) rfl rfl F.one3 (fun a w ha => ha.old (hcell k x hx 0 _ rfl) hb) ?_
    refine lst_assign rfl rfl ?_
    refine lst_nil ?_
    refine ex_then ?_
    refine cod_region ?_
    refine lst_move rfl rfl ?_
    refine lst_move rfl rfl ?_
    refine lst_int (v := .int .i64 ((sumN (l.take (k + 1)) : Nat) : Int)) rfl rfl rfl (fun w => bin_add w (by rw [wrap_i64' _ (by omega) (by omega)]; omega)) ?_
    refine lst_assign rfl rfl ?_
    refine lst_nil ?_
    refine ex_block_normal ?_
    refine ex_then ?_
    refine cod_region ?_
    refine lst_int rfl rfl rfl (fun w => bin_add w (wrap_i64' _ (by omega) (by omega))) ?_
    refine lst_move rfl rfl ?_
    refine lst_nil ?_
    refine ex_round (k + 1) (by omega) (by (try dsimp only); omega) (by repeat (first | exact Sub.nil _ | refine Sub.cons rfl ?_)) (by repeat (first | exact List.Sublist.refl _ | exact List.nil_sublist _ | refine List.Sublist.cons_cons _ ?_ | refine List.Sublist.cons _ ?_))
  · skip
    refine cod_exit ?_
    refine ex_then_exit ?_
    refine ex_then_exit ?_
    refine ex_block_exit ?_
    refine ex_then ?_
    refine cod_seq ?_
    refine cod_region ?_
    refine lst_move rfl rfl ?_
    refine lst_assign rfl rfl ?_
    refine lst_nil ?_
    refine ex_then ?_
    refine cod_ret ?_
    obtain rfl : k = l.length := by omega
    exact ex_ret rfl (fun a w ha => res_one rfl rfl ha) (fun a w ha => ⟨by rw [List.take_length], ha.grown (List.nil_sublist _)⟩)

theorem within_c (n lo hi : Int) (w : World) : Calls Tryd.prog 39 #[.int .i64 (n : Int), .int .i64 (lo : Int), .int .i64 (hi : Int)] w fun e w' => e = .returned (.bool (decide (lo ≤ n) && decide (n ≤ hi))) ∧ Grew w w' [] := by
  refine enter (N := 15) [(0, .int .i64 (n : Int)), (1, .int .i64 (lo : Int)), (2, .int .i64 (hi : Int))] Tryd.func39 rfl Tryd.ntmps39 rfl rfl ?_
  refine cod_seq ?_
  refine cod_region ?_
  refine lst_assign rfl rfl ?_
  refine lst_nil ?_
  refine ex_then ?_
  refine cod_seq ?_
  refine cod_region ?_
  refine lst_cut1 8 14 (.bool (decide (lo ≤ n) && decide (n ≤ hi))) ?_ ?_
  · skip
    refine lst_move rfl rfl ?_
    refine lst_move rfl rfl ?_
    refine lst_int rfl rfl rfl bin_leq ?_
    refine lst_move rfl rfl ?_
    refine lst_split (t := 10) rfl (fun hg10 => ?_) (fun hg10 => ?_)
    · skip
      refine lst_on rfl rfl ?_
      refine lst_move rfl rfl ?_
      refine lst_on rfl rfl ?_
      refine lst_move rfl rfl ?_
      refine lst_on rfl rfl ?_
      refine lst_int rfl rfl rfl bin_leq ?_
      refine lst_pick_true rfl rfl rfl ?_
      refine lst_nil ?_
      exact ex_cut (.cons (by simp_all [look] <;> omega) (by repeat (first | exact Sub.nil _ | refine Sub.cons rfl ?_))) (by repeat (first | exact List.Sublist.refl _ | exact List.nil_sublist _ | refine List.Sublist.cons_cons _ ?_ | refine List.Sublist.cons _ ?_))
    · skip
      refine lst_off rfl rfl rfl ?_
      refine lst_off rfl rfl rfl ?_
      refine lst_off rfl rfl rfl ?_
      refine lst_pick_false rfl rfl rfl ?_
      refine lst_nil ?_
      exact ex_cut (.cons (by simp_all [look] <;> omega) (by repeat (first | exact Sub.nil _ | refine Sub.cons rfl ?_))) (by repeat (first | exact List.Sublist.refl _ | exact List.nil_sublist _ | refine List.Sublist.cons_cons _ ?_ | refine List.Sublist.cons _ ?_))
  refine lst_assign rfl rfl ?_
  refine lst_nil ?_
  refine ex_then ?_
  refine cod_ret ?_
  exact ex_ret rfl (fun a w ha => res_one rfl rfl ha) (fun a w ha => ⟨rfl, ha.grown (List.nil_sublist _)⟩)

theorem outside_c (n lo hi : Int) (w : World) : Calls Tryd.prog 31 #[.int .i64 (n : Int), .int .i64 (lo : Int), .int .i64 (hi : Int)] w fun e w' => e = .returned (.bool (!(decide (lo ≤ n) && decide (n ≤ hi)))) ∧ Grew w w' [] := by
  refine enter (N := 15) [(0, .int .i64 (n : Int)), (1, .int .i64 (lo : Int)), (2, .int .i64 (hi : Int))] Tryd.func31 rfl Tryd.ntmps31 rfl rfl ?_
  refine cod_seq ?_
  refine cod_region ?_
  refine lst_assign rfl rfl ?_
  refine lst_nil ?_
  refine ex_then ?_
  refine cod_seq ?_
  refine cod_region ?_
  refine lst_cut1 8 14 (.bool (!(decide (lo ≤ n) && decide (n ≤ hi)))) ?_ ?_
  · skip
    refine lst_move rfl rfl ?_
    refine lst_move rfl rfl ?_
    refine lst_int rfl rfl rfl bin_lss ?_
    refine lst_move rfl rfl ?_
    refine lst_split (t := 10) rfl (fun hg10 => ?_) (fun hg10 => ?_)
    · skip
      refine lst_off rfl rfl rfl ?_
      refine lst_off rfl rfl rfl ?_
      refine lst_off rfl rfl rfl ?_
      refine lst_pick_true rfl rfl rfl ?_
      refine lst_nil ?_
      exact ex_cut (.cons (by simp_all [look] <;> (try rw [Bool.eq_iff_iff]) <;> (try simp) <;> omega) (by repeat (first | exact Sub.nil _ | refine Sub.cons rfl ?_))) (by repeat (first | exact List.Sublist.refl _ | exact List.nil_sublist _ | refine List.Sublist.cons_cons _ ?_ | refine List.Sublist.cons _ ?_))
    · skip
      refine lst_on rfl rfl ?_
      refine lst_move rfl rfl ?_
      refine lst_on rfl rfl ?_
      refine lst_move rfl rfl ?_
      refine lst_on rfl rfl ?_
      refine lst_int rfl rfl rfl bin_gtr ?_
      refine lst_pick_false rfl rfl rfl ?_
      refine lst_nil ?_
      exact ex_cut (.cons (by simp_all [look] <;> (try rw [Bool.eq_iff_iff]) <;> (try simp) <;> omega) (by repeat (first | exact Sub.nil _ | refine Sub.cons rfl ?_))) (by repeat (first | exact List.Sublist.refl _ | exact List.nil_sublist _ | refine List.Sublist.cons_cons _ ?_ | refine List.Sublist.cons _ ?_))
  refine lst_assign rfl rfl ?_
  refine lst_nil ?_
  refine ex_then ?_
  refine cod_ret ?_
  exact ex_ret rfl (fun a w ha => res_one rfl rfl ha) (fun a w ha => ⟨rfl, ha.grown (List.nil_sublist _)⟩)

theorem sized_c (n lo hi : Int) (w : World) : Calls Tryd.prog 44 #[.int .i64 (n : Int), .int .i64 (lo : Int), .int .i64 (hi : Int)] w fun e w' => e = .returned (.int .i64 (if n < lo then 7 else if n > hi then 6 else 0)) ∧ Grew w w' [] := by
  refine enter (N := 15) [(0, .int .i64 (n : Int)), (1, .int .i64 (lo : Int)), (2, .int .i64 (hi : Int))] Tryd.func44 rfl Tryd.ntmps44 rfl rfl ?_
  refine cod_seq ?_
  refine cod_region ?_
  refine lst_assign rfl rfl ?_
  refine lst_nil ?_
  refine ex_then ?_
  refine cod_seq ?_
  refine cod_block ?_
  refine cod_seq ?_
  refine cod_region ?_
  refine lst_move rfl rfl ?_
  refine lst_move rfl rfl ?_
  refine lst_int rfl rfl rfl bin_lss ?_
  refine lst_assign rfl rfl ?_
  refine lst_nil ?_
  refine ex_then ?_
  refine cod_cond_dec rfl (fun hc0 => ?_) (fun hc0 => ?_)
  · skip
    refine cod_seq ?_
    refine cod_region ?_
    refine lst_assign rfl rfl ?_
    refine lst_nil ?_
    refine ex_then ?_
    refine cod_ret ?_
    refine ex_block_ret ?_
    refine ex_then_ret ?_
    exact ex_ret rfl (fun a w ha => res_one rfl rfl ha) (fun a w ha => ⟨by rw [if_pos hc0], ha.grown (List.nil_sublist _)⟩)
  · skip
    refine cod_seq ?_
    refine cod_region ?_
    refine lst_move rfl rfl ?_
    refine lst_move rfl rfl ?_
    refine lst_int rfl rfl rfl bin_gtr ?_
    refine lst_assign rfl rfl ?_
    refine lst_nil ?_
    refine ex_then ?_
    refine cod_cond_dec rfl (fun hc1 => ?_) (fun hc1 => ?_)
    · skip
      refine cod_seq ?_
      refine cod_region ?_
      refine lst_assign rfl rfl ?_
      refine lst_nil ?_
      refine ex_then ?_
      refine cod_ret ?_
      refine ex_block_ret ?_
      refine ex_then_ret ?_
      exact ex_ret rfl (fun a w ha => res_one rfl rfl ha) (fun a w ha => ⟨by rw [if_neg hc0, if_pos hc1], ha.grown (List.nil_sublist _)⟩)
    · skip
      refine cod_skip ?_
      refine ex_block_normal ?_
      refine ex_then ?_
      refine cod_seq ?_
      refine cod_region ?_
      refine lst_assign rfl rfl ?_
      refine lst_nil ?_
      refine ex_then ?_
      refine cod_ret ?_
      exact ex_ret rfl (fun a w ha => res_one rfl rfl ha) (fun a w ha => ⟨by rw [if_neg hc0, if_neg hc1], ha.grown (List.nil_sublist _)⟩)

theorem unless_c (b : Bool) (er : Int) (w : World) : Calls Tryd.prog 50 #[.bool b, .int .i64 er] w fun e w' => e = .returned (.int .i64 (if b = true then 0 else er)) ∧ Grew w w' [] := by
  refine enter (N := 7) [(0, .bool b), (1, .int .i64 er)] Tryd.func50 rfl Tryd.ntmps50 rfl rfl ?_
  refine cod_seq ?_
  refine cod_region ?_
  refine lst_assign rfl rfl ?_
  refine lst_nil ?_
  refine ex_then ?_
  refine cod_seq ?_
  refine cod_seq ?_
  refine cod_region ?_
  refine lst_move rfl rfl ?_
  refine lst_nil ?_
  refine ex_then ?_
  refine cod_cond_bool rfl (fun hc0 => ?_) (fun hc0 => ?_)
  · skip
    refine cod_seq ?_
    refine cod_region ?_
    refine lst_assign rfl rfl ?_
    refine lst_nil ?_
    refine ex_then ?_
    refine cod_ret ?_
    refine ex_then_ret ?_
    exact ex_ret rfl (fun a w ha => res_one rfl rfl ha) (fun a w ha => ⟨by rw [if_pos hc0], ha.grown (List.nil_sublist _)⟩)
  · skip
    refine cod_skip ?_
    refine ex_then ?_
    refine cod_seq ?_
    refine cod_region ?_
    refine lst_move rfl rfl ?_
    refine lst_assign rfl rfl ?_
    refine lst_nil ?_
    refine ex_then ?_
    refine cod_ret ?_
    exact ex_ret rfl (fun a w ha => res_one rfl rfl ha) (fun a w ha => ⟨by rw [if_neg (by rw [hc0]; simp)], ha.grown (List.nil_sublist _)⟩)

end Go.Proofs.YthkbagikmbcphaaDoor.N
namespace Go.Proofs.YthkbagikmbcphaaDoor.N
open Go Go.RowKit Go.Proofs
theorem Rds.sub {α : Type} {cells : α → List Value} {size : Nat} {C : Ctx} {T T' : List Res} {A : Option Addr} {l : List α} (h : Rds cells size C T A l) (hs : ∀ r ∈ T, r ∈ T') : Rds cells size C T' A l :=
  fun C' fr hp a w ha h1 h2 h3 hm => h C' fr hp a w ha h1 h2 h3 (fun r hr => hm r (hs r hr))
end Go.Proofs.YthkbagikmbcphaaDoor.N
namespace Go.Proofs.YthkbagikmbcphaaDoor.N
open Go Go.RowKit Go.Proofs
section
variable {C : Ctx} {fr : List (Nat × Value)} {hp hp' : List Res} {a : Act} {w : World} {Q : Exit → Act → World → Prop} {r : Nat}
/-- The statement, in terms of what is the call's own. -/
theorem cod_range2 {g : Operand} {ps : Array Tmp} {assign body : Code} {gf : FuncId} {lb : List Value} (hg : ev fr g = some (.func (.func gf) #[] lb.toArray)) (he : Enters C.P gf)
    (h : ∀ a w, At C fr hp a w → ∀ (r D : Nat) (rec : Loop) (W1 : World), rec.state = .ready → rec.pending = none → rec.tmps = a.tmps → rec.params = ps → rec.assign = assign → rec.body = body →
      r < W1.heap.size → D < W1.heap.size → At C fr (.blk r (.loop rec) :: .blk D (.deferred (some [])) :: hp) a W1 →
      Calls C.P gf (#[.func (.yield r) #[] #[]] ++ lb.toArray) W1 fun e w3 => (∃ v, e = .returned v) ∧ ∃ st pe, st ≠ .busy ∧ w3.heap[r]? = some (.loop { rec with state := st, pending := pe }) ∧
        (pe = none ∧ Q .normal { a with defers := { target := .collected D, args := #[] } :: a.defers } (w3.putObj r (.loop { rec with state := .exhausted, pending := pe })) ∨
         pe = some .ret ∧ Q .ret { a with defers := { target := .collected D, args := #[] } :: a.defers } (w3.putObj r (.loop { rec with state := .exhausted, pending := pe })))) :
    Cod C (.rangeFunc g ps assign body) Q fr hp := by
  refine cod_range hg he fun a w ha fn => ?_
  have h1 := (ha.alloc (.deferred (some []))).alloc (.loop (recOf fn a ps assign body w.heap.size .ready none))
  have h2 : (w.alloc (.deferred (some []))).heap.size = w.heap.size + 1 := by simp
  rw [h2] at h1
  have h3 := h a w ha (w.heap.size + 1) w.heap.size (recOf fn a ps assign body w.heap.size .ready none) _ rfl rfl rfl rfl rfl rfl (by simp) (by simp; omega) h1
  exact h3.mono fun e w3 hh => hh
theorem Mem.later {w' : World} (h : Mem C hp w) (hb : Below w.heap.size w w') : Mem C hp w' :=
  ⟨h.1.trans (hb.mono h.2.1), Nat.le_trans h.2.1 hb.size, fun r hr => Res.keep (h.2.2.1 r hr) (fun k hk => hb.block k (Res.lt (h.2.2.1 r hr) k hk).2), h.2.2.2⟩
theorem At.mem (ha : At C fr hp a w) : Mem C hp w := ha.toMem (List.Sublist.refl _)
theorem KeepUp.sub {H : Nat} {W W2 w' : World} (hs : W.heap.size ≤ W2.heap.size) (h2 : ∀ b, H ≤ b → b < W.heap.size → W2.heap[b]? = W.heap[b]?) (h : KeepUp H W2 w') : KeepUp H W w' :=
  ⟨trivial, fun b h1 hb => (h.2 b h1 (by omega)).trans (h2 b h1 hb)⟩
theorem codR_of_eq {c c' : Code} (h : c = c') (k : CodR C r c' Q fr hp) : CodR C r c Q fr hp := h ▸ k
theorem At.putRec {rec rec' : Loop} (ha : At C fr (.blk r (.loop rec) :: hp) a w) : At C fr (.blk r (.loop rec') :: hp) a (w.putObj r (.loop rec')) := by
  have hb := ha.own _ (List.mem_cons_self ..)
  refine ha.turn (Upd.head hp) ⟨rfl, rfl, rfl, by simp, fun k _ hk => World.putObj_heap_other (fun e => hk (by rw [e]; rfl))⟩ ⟨hb.1, ?_⟩ (fun k hk => .inl hk)
  exact World.putObj_heap_same (Array.getElem?_eq_some_iff.1 hb.2).1
end
end Go.Proofs.YthkbagikmbcphaaDoor.N
namespace Go.Proofs.YthkbagikmbcphaaDoor.N
open Go Go.RowKit Go.Proofs
/-! Works: vessels, readings, and what they can weigh. -/
structure Vs where
  fr : Int
  room : Nat
  lo : Nat
  hi : Nat
  deriving Inhabited, DecidableEq
def Vs.cells (v : Vs) : List Value := [.int .i64 v.fr, .int .i64 (v.room : Int), .int .i64 (v.lo : Int), .int .i64 (v.hi : Int)]
structure Rd where
  v : Nat
  sc : Nat
  sh : Nat
  er : Nat
  deriving Inhabited, DecidableEq
def Rd.cells (r : Rd) : List Value := [.int .i64 (r.v : Int), .int .i64 (r.sc : Int), .int .i64 (r.sh : Int), .int .i64 (r.er : Int)]
def kids (vs : List Vs) (i : Nat) : List Nat := (List.range vs.length).filter fun k => decide ((vs.getD k default).fr = (i : Int))
def anyN : Nat := 2199023255551
theorem anyN_eq : anyN = 2 ^ 41 - 1 := rfl
def spanN (lo hi : Int) : Nat :=
  if hi < 0 ∨ lo > hi then 0 else if (max lo 0) > 40 then 0 else ((anyN >>> (max lo 0).toNat) <<< (max lo 0).toNat) &&& (anyN >>> (40 - min hi 40).toNat)
theorem anyN_bit (k : Nat) : anyN.testBit k = decide (k < 41) := by
  rw [anyN_eq, Nat.testBit_two_pow_sub_one]
theorem spanN_bit {lo hi : Int} {k : Nat} (h1 : lo ≤ k) (h2 : (k : Int) ≤ hi) (h3 : k ≤ 40) : (spanN lo hi).testBit k = true := by
  unfold spanN
  rw [if_neg (by omega), if_neg (by omega), Nat.testBit_and, Nat.testBit_shiftLeft, Nat.testBit_shiftRight, Nat.testBit_shiftRight, anyN_bit, anyN_bit]
  simp only [Bool.and_eq_true, decide_eq_true_eq]
  omega
theorem shlr_le (a l : Nat) : (a >>> l) <<< l ≤ a := by
  rw [Nat.shiftLeft_eq, Nat.shiftRight_eq_div_pow]
  exact Nat.div_mul_le_self a (2 ^ l)
theorem spanN_le (lo hi : Int) : spanN lo hi ≤ anyN := by
  unfold spanN
  split
  · exact Nat.zero_le _
  split
  · exact Nat.zero_le _
  · exact Nat.le_trans Nat.and_le_left (shlr_le _ _)
def plusF (w v : Nat) : Nat → Nat
  | 0 => 0
  | k + 1 => if w.testBit k = true then plusF w v k ||| ((v * 2 ^ k) % 18446744073709551616) else plusF w v k
def plusN (w v : Nat) : Nat := plusF w v 41 &&& anyN
theorem plusF_lt (w v : Nat) : ∀ k, plusF w v k < 18446744073709551616
  | 0 => show (0 : Nat) < 18446744073709551616 by decide
  | k + 1 => by
    unfold plusF
    split
    · exact Nat.or_lt_two_pow (n := 64) (plusF_lt w v k) (Nat.mod_lt _ (by decide))
    · exact plusF_lt w v k
theorem plusN_le (w v : Nat) : plusN w v ≤ anyN := Nat.and_le_right
theorem plusF_bit {w v a b : Nat} (ha : w.testBit a = true) (hb : v.testBit b = true) (hab : a + b ≤ 40) : ∀ k, a < k → (plusF w v k).testBit (a + b) = true
  | 0, h => absurd h (Nat.not_lt_zero _)
  | k + 1, h => by
    unfold plusF
    rcases Nat.lt_succ_iff_lt_or_eq.1 h with h1 | rfl
    · have ih := plusF_bit ha hb hab k h1
      split
      · rw [Nat.testBit_or, ih, Bool.true_or]
      · exact ih
    · rw [if_pos ha, Nat.testBit_or, show (18446744073709551616 : Nat) = 2 ^ 64 from rfl, Nat.testBit_mod_two_pow, ← Nat.shiftLeft_eq, Nat.testBit_shiftLeft]
      simp only [Bool.or_eq_true, Bool.and_eq_true, decide_eq_true_eq]
      exact .inr ⟨by omega, by omega, by rw [Nat.add_sub_cancel_left]; exact hb⟩
theorem plusN_bit {w v a b : Nat} (ha : w.testBit a = true) (hb : v.testBit b = true) (hab : a + b ≤ 40) : (plusN w v).testBit (a + b) = true := by
  unfold plusN
  rw [Nat.testBit_and, anyN_bit, plusF_bit ha hb hab 41 (by omega)]
  simp; omega
/-- What is known of each vessel. -/
structure St where
  lim : List Nat
  los : List (Nat × Nat)
def St.cells (s : St) : List Value := s.lim.map (fun (n : Nat) => Value.int .u64 (n : Int)) ++ s.los.flatMap fun x => [.int .i64 (x.1 : Int), .int .i64 (x.2 : Int)]
def St.ok (s : St) : Prop := s.lim.length = 6 ∧ s.los.length = 6 ∧ (∀ n ∈ s.lim, n ≤ anyN) ∧ ∀ x ∈ s.los, x.1 ≤ 1000 ∧ x.2 ≤ 1000
def sumsF (out : List Nat) (ks : List Nat) : Nat := ks.foldl (fun s k => plusN s (out.getD k 0)) 1
def upStep (vs : List Vs) (s : St) (out : List Nat) (i : Nat) : List Nat :=
  out.set i (if kids vs i = [] then s.lim.getD i 0 else s.lim.getD i 0 &&& plusN (sumsF out (kids vs i)) (spanN ((s.los.getD i (0, 0)).1 : Int) ((s.los.getD i (0, 0)).2 : Int)))
/-- The k last vessels. -/
def upD (vs : List Vs) (s : St) : Nat → List Nat
  | 0 => List.replicate 6 0
  | k + 1 => upStep vs s (upD vs s k) (vs.length - 1 - k)
def upN (vs : List Vs) (s : St) : List Nat := upD vs s vs.length
def okN (vs : List Vs) (s : St) : Bool := (List.range vs.length).all fun i => decide ((upN vs s).getD i 0 ≠ 0)
/-- A truth, as far as weights go. -/
structure Tru (vs : List Vs) (ws : List Nat) (s : St) : Prop where
  n4 : vs.length ≤ 6
  w40 : ∀ i, i < vs.length → ws.getD i 0 ≤ 40
  mem : ∀ i, i < vs.length → (s.lim.getD i 0).testBit (ws.getD i 0) = true
  fr : ∀ i, i < vs.length → (vs.getD i default).fr < (i : Int)
  sum : ∀ i, i < vs.length → kids vs i ≠ [] → ∃ l, (s.los.getD i (0, 0)).1 ≤ l ∧ l ≤ (s.los.getD i (0, 0)).2 ∧ ws.getD i 0 = sumN ((kids vs i).map fun k => ws.getD k 0) + l
theorem kids_lt {vs : List Vs} {i k : Nat} (h : k ∈ kids vs i) : k < vs.length ∧ (vs.getD k default).fr = (i : Int) := by
  unfold kids at h
  obtain ⟨h1, h2⟩ := List.mem_filter.1 h
  exact ⟨List.mem_range.1 h1, of_decide_eq_true h2⟩
theorem sums_bit {out : List Nat} {ws : List Nat} : ∀ (ks : List Nat) (s a : Nat), s.testBit a = true → a + sumN (ks.map fun k => ws.getD k 0) ≤ 40 → (∀ k ∈ ks, (out.getD k 0).testBit (ws.getD k 0) = true) →
    (ks.foldl (fun s k => plusN s (out.getD k 0)) s).testBit (a + sumN (ks.map fun k => ws.getD k 0)) = true
  | [], s, a, h, _, _ => by simpa [sumN] using h
  | k :: ks, s, a, h, hs, hm => by
    rw [List.map_cons, sumN_cons] at hs ⊢
    rw [List.foldl_cons, ← Nat.add_assoc]
    exact sums_bit ks _ _ (plusN_bit h (hm k (List.mem_cons_self ..)) (by omega)) (by omega) fun j hj => hm j (List.mem_cons_of_mem _ hj)
theorem upD_len (vs : List Vs) (s : St) : ∀ k, (upD vs s k).length = 6
  | 0 => by simp [upD]
  | k + 1 => by unfold upD upStep; rw [List.length_set]; exact upD_len vs s k
theorem getN_set' {L : List Nat} {f g x : Nat} (hf : f < L.length) : (L.set f x).getD g 0 = if f = g then x else L.getD g 0 := by
  rw [List.getD_eq_getElem?_getD, List.getElem?_set, List.getD_eq_getElem?_getD]
  by_cases e : f = g
  · subst e
    rw [if_pos rfl, if_pos rfl, if_pos hf]; rfl
  · rw [if_neg e, if_neg e]
theorem upD_bit {vs : List Vs} {ws : List Nat} {s : St} (h : Tru vs ws s) : ∀ k, k ≤ vs.length → ∀ i, vs.length - k ≤ i → i < vs.length → ((upD vs s k).getD i 0).testBit (ws.getD i 0) = true
  | 0, _, i, h1, h2 => by omega
  | k + 1, hk, i, h1, h2 => by
    have hl := upD_len vs s k
    have h6 := h.n4
    unfold upD upStep
    rw [getN_set' (by omega)]
    by_cases e : vs.length - 1 - k = i
    · rw [if_pos e]
      subst e
      split
      · exact h.mem _ h2
      · rename_i hne
        obtain ⟨l, hl1, hl2, hw⟩ := h.sum _ h2 hne
        have hw40 := h.w40 _ h2
        rw [Nat.testBit_and, h.mem _ h2, Bool.true_and, hw]
        refine plusN_bit ?_ (spanN_bit (by omega) (by omega) (by omega)) (by omega)
        have := sums_bit (out := upD vs s k) (ws := ws) (kids vs (vs.length - 1 - k)) 1 0 (by decide) (by omega) fun j hj => by
          obtain ⟨hj1, hj2⟩ := kids_lt hj
          have := h.fr j hj1
          exact upD_bit h k (by omega) j (by omega) hj1
        rw [Nat.zero_add] at this
        exact this
    · rw [if_neg e]
      exact upD_bit h k (by omega) i (by omega) h2
theorem tru_ok {vs : List Vs} {ws : List Nat} {s : St} (h : Tru vs ws s) : okN vs s = true := by
  unfold okN
  rw [List.all_eq_true]
  intro i hi
  have hi' := List.mem_range.1 hi
  refine decide_eq_true fun h0 => ?_
  have := upD_bit h vs.length (Nat.le_refl _) i (by omega) hi'
  unfold upN at h0
  rw [h0, Nat.zero_testBit] at this
  cases this
/-- The state if a vessel has a weight. -/
def weighed (s : St) (v n : Nat) : St := ⟨s.lim.set v (s.lim.getD v 0 &&& spanN n n), s.los⟩
def wgtF (vs : List Vs) (s : St) (v : Nat) : Nat → Nat × Nat
  | 0 => (40, 0)
  | k + 1 => if okN vs (weighed s v k) = true then (min (wgtF vs s v k).1 k, k) else wgtF vs s v k
theorem tru_weighed {vs : List Vs} {ws : List Nat} {s : St} (h : Tru vs ws s) {v : Nat} (hs : s.lim.length = 6) (hv : v < vs.length) : Tru vs ws (weighed s v (ws.getD v 0)) :=
  { h with
    mem := fun i hi => by
      have h6 := h.n4
      unfold weighed
      rw [getN_set' (by omega)]
      by_cases e : v = i
      · subst e
        rw [if_pos rfl, Nat.testBit_and, h.mem _ hi, spanN_bit (Int.le_refl _) (Int.le_refl _) (h.w40 _ hi)]; rfl
      · rw [if_neg e]; exact h.mem i hi }
theorem wgtF_le (vs : List Vs) (s : St) (v : Nat) : ∀ k, k ≤ 41 → (wgtF vs s v k).1 ≤ 40 ∧ (wgtF vs s v k).2 ≤ 40
  | 0, _ => ⟨Nat.le_refl _, Nat.zero_le _⟩
  | k + 1, h => by
    have ih := wgtF_le vs s v k (by omega)
    unfold wgtF
    split
    · exact ⟨Nat.le_trans (Nat.min_le_left _ _) ih.1, by omega⟩
    · exact ih
theorem wgtF_has (vs : List Vs) (s : St) (v n : Nat) (h : okN vs (weighed s v n) = true) : ∀ k, n < k → (wgtF vs s v k).1 ≤ n ∧ n ≤ (wgtF vs s v k).2
  | 0, hk => absurd hk (Nat.not_lt_zero _)
  | k + 1, hk => by
    unfold wgtF
    rcases Nat.lt_succ_iff_lt_or_eq.1 hk with h1 | rfl
    · have ih := wgtF_has vs s v n h k h1
      split
      · exact ⟨Nat.le_trans (Nat.min_le_left _ _) ih.1, by omega⟩
      · exact ih
    · rw [if_pos h]
      exact ⟨Nat.min_le_right _ _, Nat.le_refl _⟩
/-- What all readings say. -/
def nowL (vs : List Vs) : Nat → List Nat
  | 0 => List.replicate 6 0
  | k + 1 => (nowL vs k).set k (spanN 0 ((vs.getD k default).room : Int))
def nowO (vs : List Vs) : Nat → List (Nat × Nat)
  | 0 => List.replicate 6 (0, 0)
  | k + 1 => (nowO vs k).set k ((vs.getD k default).lo, (vs.getD k default).hi)
def readF (rs : List Rd) (l : List Nat) : Nat → List Nat
  | 0 => l
  | k + 1 => (readF rs l k).set (rs.getD k default).v ((readF rs l k).getD (rs.getD k default).v 0 &&& spanN (((rs.getD k default).sh : Int) - ((rs.getD k default).er : Int)) (((rs.getD k default).sh : Int) + ((rs.getD k default).er : Int)))
def nowN (vs : List Vs) (rs : List Rd) : St := ⟨readF rs (nowL vs vs.length) rs.length, nowO vs vs.length⟩
theorem nowL_len (vs : List Vs) : ∀ k, (nowL vs k).length = 6
  | 0 => by simp [nowL]
  | k + 1 => by unfold nowL; rw [List.length_set]; exact nowL_len vs k
theorem nowO_len (vs : List Vs) : ∀ k, (nowO vs k).length = 6
  | 0 => by simp [nowO]
  | k + 1 => by unfold nowO; rw [List.length_set]; exact nowO_len vs k
theorem readF_len (rs : List Rd) (l : List Nat) : ∀ k, (readF rs l k).length = l.length
  | 0 => rfl
  | k + 1 => by unfold readF; rw [List.length_set]; exact readF_len rs l k
theorem nowL_get (vs : List Vs) {i : Nat} (h6 : i < 6) : ∀ k, k ≤ 6 → (nowL vs k).getD i 0 = if i < k then spanN 0 ((vs.getD i default).room : Int) else 0
  | 0, _ => by
    rw [if_neg (Nat.not_lt_zero _), List.getD_eq_getElem?_getD, show nowL vs 0 = List.replicate 6 0 from rfl, List.getElem?_replicate, if_pos h6]
    rfl
  | k + 1, hk => by
    unfold nowL
    rw [getN_set' (by rw [nowL_len]; omega), nowL_get vs h6 k (by omega)]
    by_cases e : k = i
    · subst e; rw [if_pos rfl, if_pos (by omega)]
    · rw [if_neg e]
      by_cases h : i < k
      · rw [if_pos h, if_pos (by omega)]
      · rw [if_neg h, if_neg (by omega)]
theorem nowO_get (vs : List Vs) {i : Nat} (h6 : i < 6) : ∀ k, k ≤ 6 → (nowO vs k).getD i (0, 0) = if i < k then ((vs.getD i default).lo, (vs.getD i default).hi) else (0, 0)
  | 0, _ => by
    rw [if_neg (Nat.not_lt_zero _), List.getD_eq_getElem?_getD, show nowO vs 0 = List.replicate 6 (0, 0) from rfl, List.getElem?_replicate, if_pos h6]
    rfl
  | k + 1, hk => by
    unfold nowO
    rw [List.getD_eq_getElem?_getD, List.getElem?_set]
    have ih := nowO_get vs h6 k (by omega)
    rw [List.getD_eq_getElem?_getD] at ih
    by_cases e : k = i
    · subst e; rw [if_pos rfl, if_pos (by rw [nowO_len]; omega), if_pos (by omega)]; rfl
    · rw [if_neg e, ih]
      by_cases h : i < k
      · rw [if_pos h, if_pos (by omega)]
      · rw [if_neg h, if_neg (by omega)]
theorem readF_bit {rs : List Rd} {l : List Nat} {ws : List Nat} (hl : l.length = 6) (hr : ∀ r ∈ rs, r.v < 6 ∧ (r.sh : Int) - r.er ≤ (ws.getD r.v 0 : Int) ∧ ((ws.getD r.v 0 : Nat) : Int) ≤ (r.sh : Int) + r.er ∧ ws.getD r.v 0 ≤ 40) {i : Nat} (hi : (l.getD i 0).testBit (ws.getD i 0) = true) :
    ∀ k, k ≤ rs.length → ((readF rs l k).getD i 0).testBit (ws.getD i 0) = true
  | 0, _ => hi
  | k + 1, hk => by
    have ih := readF_bit hl hr hi k (by omega)
    have hm : rs.getD k default ∈ rs := by
      rw [List.getD_eq_getElem?_getD, List.getElem?_eq_getElem (by omega)]
      exact List.getElem_mem (by omega)
    obtain ⟨h1, h2, h3, h4⟩ := hr _ hm
    unfold readF
    rw [getN_set' (by rw [readF_len, hl]; exact h1)]
    by_cases e : (rs.getD k default).v = i
    · rw [if_pos e]
      subst e
      rw [Nat.testBit_and, ih, spanN_bit h2 h3 h4]; rfl
    · rw [if_neg e]; exact ih
/-- Works with a truth. -/
structure Melt (vs : List Vs) (rs : List Rd) (ws : List Nat) : Prop where
  n1 : 1 ≤ vs.length
  n4 : vs.length ≤ 4
  wlen : ws.length = vs.length
  fr : ∀ i, i < vs.length → -1 ≤ (vs.getD i default).fr ∧ (vs.getD i default).fr < (i : Int)
  room : ∀ i, i < vs.length → (vs.getD i default).room ≤ 40 ∧ ws.getD i 0 ≤ (vs.getD i default).room
  los : ∀ i, i < vs.length → (vs.getD i default).lo ≤ (vs.getD i default).hi ∧ (vs.getD i default).hi ≤ 20
  sum : ∀ i, i < vs.length → kids vs i ≠ [] → ∃ l, (vs.getD i default).lo ≤ l ∧ l ≤ (vs.getD i default).hi ∧ ws.getD i 0 = sumN ((kids vs i).map fun k => ws.getD k 0) + l
  r6 : rs.length ≤ 6
  rd : ∀ r ∈ rs, r.v < vs.length ∧ r.sc ≤ 2 ∧ r.er ≤ 9 ∧ r.sh ≤ 60 ∧ (r.sh : Int) - r.er ≤ (ws.getD r.v 0 : Int) ∧ ((ws.getD r.v 0 : Nat) : Int) ≤ (r.sh : Int) + r.er
theorem Melt.tru {vs : List Vs} {rs : List Rd} {ws : List Nat} (h : Melt vs rs ws) : Tru vs ws (nowN vs rs) := by
  have h4 := h.n4
  refine ⟨by omega, fun i hi => Nat.le_trans (h.room i hi).2 (h.room i hi).1, fun i hi => ?_, fun i hi => (h.fr i hi).2, fun i hi hk => ?_⟩
  · refine readF_bit (nowL_len vs _) (fun r hr => ?_) ?_ rs.length (Nat.le_refl _)
    · obtain ⟨h1, _, _, _, h5, h6⟩ := h.rd r hr
      exact ⟨by omega, h5, h6, Nat.le_trans (h.room _ h1).2 (h.room _ h1).1⟩
    · rw [nowL_get vs (by omega) _ (by omega), if_pos hi]
      have := h.room i hi
      exact spanN_bit (by omega) (by omega) (by omega)
  · show ∃ l, ((nowO vs vs.length).getD i (0, 0)).1 ≤ l ∧ _
    obtain ⟨l, h1, h2, h3⟩ := h.sum i hi hk
    refine ⟨l, ?_, ?_, h3⟩
    · rw [nowO_get vs (by omega) _ (by omega), if_pos hi]; exact h1
    · show l ≤ ((nowO vs vs.length).getD i (0, 0)).2
      rw [nowO_get vs (by omega) _ (by omega), if_pos hi]; exact h2
theorem Melt.weight {vs : List Vs} {rs : List Rd} {ws : List Nat} (h : Melt vs rs ws) {v : Nat} (hv : v < vs.length) : okN vs (nowN vs rs) = true ∧ (wgtF vs (nowN vs rs) v 41).1 ≤ ws.getD v 0 ∧ ws.getD v 0 ≤ (wgtF vs (nowN vs rs) v 41).2 := by
  have ht := h.tru
  refine ⟨tru_ok ht, wgtF_has vs _ v _ (tru_ok (tru_weighed ht ?_ hv)) 41 ?_⟩
  · show (readF rs (nowL vs vs.length) rs.length).length = 6
    rw [readF_len, nowL_len]
  · have := ht.w40 v hv
    omega
end Go.Proofs.YthkbagikmbcphaaDoor.N
namespace Go.Proofs.YthkbagikmbcphaaDoor.N
open Go Go.RowKit Go.Proofs
theorem shl_u64T {v k : Nat} (hk : k ≤ 64) : IntKind.u64.wrap ((v : Int) * 2 ^ (min ((k : Int)).toNat IntKind.u64.bits)) = ((v * 2 ^ k % 18446744073709551616 : Nat) : Int) := by
  rw [Int.toNat_natCast, show min k IntKind.u64.bits = k by simp [IntKind.bits]; omega]
  have h := wrap_u64 (v * 2 ^ k % 18446744073709551616) (Nat.mod_lt _ (by decide))
  rw [← h]
  have e : ((v : Int) * 2 ^ k) = ((v * 2 ^ k : Nat) : Int) := by rw [Int.natCast_mul, Int.natCast_pow]; rfl
  rw [e]
  simp [IntKind.wrap, IntKind.signed, IntKind.bits]
theorem shl_u64T' {m l : Nat} (hl : l ≤ 40) (h : m <<< l < 18446744073709551616) : IntKind.u64.wrap ((m : Int) * 2 ^ (min ((l : Int)).toNat IntKind.u64.bits)) = ((m <<< l : Nat) : Int) := by
  rw [shl_u64T (by omega), ← Nat.shiftLeft_eq, Nat.mod_eq_of_lt h]
end Go.Proofs.YthkbagikmbcphaaDoor.N
namespace Go.Proofs.YthkbagikmbcphaaDoor.N
open Go Go.RowKit Go.Proofs
theorem nowL_any {vs : List Vs} {i : Nat} (h6 : i < 6) {k : Nat} (hk : k ≤ 6) : (nowL vs k).getD i 0 ≤ anyN := by
  rw [nowL_get vs h6 k hk]
  split
  · exact spanN_le _ _
  · exact Nat.zero_le _
theorem readF_any {rs : List Rd} {l : List Nat} {i : Nat} (h : l.getD i 0 ≤ anyN) : ∀ k, (readF rs l k).getD i 0 ≤ anyN
  | 0 => h
  | k + 1 => by
    have ih := readF_any (rs := rs) h k
    unfold readF
    rcases Nat.lt_or_ge (rs.getD k default).v (readF rs l k).length with h1 | h1
    · rw [getN_set' h1]
      split
      · rename_i e
        rw [e]
        exact Nat.le_trans Nat.and_le_left ih
      · exact ih
    · rw [List.set_eq_of_length_le h1]
      exact ih
end Go.Proofs.YthkbagikmbcphaaDoor.N
namespace Go.Proofs.YthkbagikmbcphaaDoor.N
theorem nowN_l1 (vs : List Vs) (rs : List Rd) : (nowN vs rs).lim.length = 6 := by
  show (readF _ _ _).length = 6
  rw [readF_len, nowL_len]
theorem nowN_l2 (vs : List Vs) (rs : List Rd) : (nowN vs rs).los.length = 6 := nowO_len _ _
end Go.Proofs.YthkbagikmbcphaaDoor.N
namespace Go.Proofs.YthkbagikmbcphaaDoor.N
theorem kids_len (vs : List Vs) (i : Nat) : (kids vs i).length ≤ vs.length := by
  unfold kids
  exact Nat.le_trans (List.length_filter_le _ _) (by rw [List.length_range]; exact Nat.le_refl _)
theorem sums_le' (out : List Nat) : ∀ (ks : List Nat) (s : Nat), s ≤ anyN → ks.foldl (fun s0 k0 => plusN s0 (out.getD k0 0)) s ≤ anyN
  | [], _s, h => h
  | _k :: ks, _s, _ => sums_le' out ks _ (plusN_le _ _)
theorem sums_le (out : List Nat) (ks : List Nat) : ks.foldl (fun s0 k0 => plusN s0 (out.getD k0 0)) 1 ≤ anyN := sums_le' out ks 1 (by decide)
end Go.Proofs.YthkbagikmbcphaaDoor.N
namespace Go.Proofs.YthkbagikmbcphaaDoor.N
open Go Go.RowKit Go.Proofs
theorem F.ent74 : Enters Tryd.prog 74 := enters_of Tryd.func74 rfl (by kernel_rfl)
theorem F.one34 : One Tryd.prog 34 := ⟨by unfold aggB; rw [Tryd.underlying34], by rw [Tryd.underlying34]; simp⟩
theorem F.ti34 : TI Tryd.prog 34 (.int .i64 0) 1 8 := TI.of (by kernel_rfl)
theorem has_c (w0 n : Nat) (hw : w0 < 18446744073709551616) (w : World) : Calls Tryd.prog 74 #[.int .u64 (w0 : Int), .int .i64 (n : Int)] w fun e w' => e = .returned (.bool (w0.testBit n)) ∧ Grew w w' [] := by
  have hs1 : w0 >>> (min n 64) < 18446744073709551616 := Nat.lt_of_le_of_lt (by rw [Nat.shiftRight_eq_div_pow]; exact Nat.div_le_self _ _) hw
  refine enter (N := 10) [(0, .int .u64 (w0 : Int)), (1, .int .i64 (n : Int))] Tryd.func74 rfl Tryd.ntmps74 rfl rfl ?_
  refine cod_seq ?_
  refine cod_region ?_
  refine lst_assign rfl rfl ?_
  refine lst_nil ?_
  refine ex_then ?_
  refine cod_seq ?_
  refine cod_region ?_
  refine lst_move rfl rfl ?_
  refine lst_move rfl rfl ?_
  refine lst_shr rfl rfl rfl (by omega) (fdiv_shr _ _ _) ?_
  refine lst_int rfl rfl rfl (fun w => bin_and w (u64_and _ 1 hs1 (by omega))) ?_
  refine lst_int rfl rfl rfl bin_eql ?_
  refine lst_assign rfl rfl ?_
  refine lst_nil ?_
  refine ex_then ?_
  refine cod_ret ?_
  exact ex_ret rfl (fun a w ha => res_one rfl rfl ha) (fun a w ha => ⟨by rw [← bit_test w0 n 64 hw]; rfl, ha.grown (List.nil_sublist _)⟩)

theorem plus_c (w0 v0 : Nat) (hw : w0 < 18446744073709551616) (w : World) : Calls Tryd.prog 67 #[.int .u64 (w0 : Int), .int .u64 (v0 : Int)] w fun e w' => e = .returned (.int .u64 ((plusN w0 v0 : Nat) : Int)) ∧ Grew w w' [] := by
  refine enter (N := 21) [(0, .int .u64 (w0 : Int)), (1, .int .u64 (v0 : Int))] Tryd.func67 rfl Tryd.ntmps67 rfl rfl ?_
  refine cod_seq ?_
  refine cod_region ?_
  refine lst_assign rfl rfl ?_
  refine lst_nil ?_
  refine ex_then ?_
  refine cod_seq ?_
  refine cod_region ?_
  refine lst_assign rfl rfl ?_
  refine lst_nil ?_
  refine ex_then ?_
  refine cod_seq ?_
  refine cod_seq ?_
  refine cod_region ?_
  refine lst_move rfl rfl ?_
  refine lst_nil ?_
  refine ex_then ?_
  refine cod_block ?_
  refine cod_loop (G := Nat) (fun k => k ≤ 41) (fun k => 41 - k) (fun k => [(0, .int .u64 (w0 : Int)), (1, .int .u64 (v0 : Int)), (5, .int .u64 ((plusF w0 v0 k : Nat) : Int)), (7, .int .i64 (k : Int))]) (fun k => []) 0 (Nat.zero_le _) (by repeat (first | exact Sub.nil _ | refine Sub.cons rfl ?_)) (by repeat (first | exact List.Sublist.refl _ | exact List.nil_sublist _ | refine List.Sublist.cons_cons _ ?_ | refine List.Sublist.cons _ ?_)) ?_
  intro k hk
  (try dsimp only at hk ⊢)
  refine cod_seq ?_
  refine cod_region ?_
  refine lst_int rfl rfl rfl bin_lss ?_
  refine lst_nil ?_
  refine ex_then ?_
  refine cod_seq ?_
  refine cod_cond_dec rfl (fun hc0 => ?_) (fun hc0 => ?_)
  · skip
    have hk' : k < 41 := by omega
    refine cod_skip ?_
    refine ex_then ?_
    refine cod_seq ?_
    refine cod_block ?_
    refine cod_seq ?_
    refine cod_region ?_
    refine lst_move rfl rfl ?_
    refine lst_assign rfl rfl ?_
    refine lst_nil ?_
    refine ex_then ?_
    refine cod_seq ?_
    refine cod_region ?_
    refine lst_move rfl rfl ?_
    refine lst_move rfl rfl ?_
    refine lst_fn0 (vs := [_, _]) rfl rfl F.ent74 (fun a w ha => has_c w0 k hw w) ?_
    refine lst_nil ?_
    refine ex_then ?_
    refine cod_cond_bool rfl (fun hc1 => ?_) (fun hc1 => ?_)
    · skip
      refine cod_region ?_
      refine lst_move rfl rfl ?_
      refine lst_move rfl rfl ?_
      refine lst_move rfl rfl ?_
      refine lst_shl (r := ((v0 * 2 ^ k % 18446744073709551616 : Nat) : Int)) rfl rfl rfl (by omega) (shl_u64T (by omega)) ?_
      refine lst_int rfl rfl rfl (fun w => bin_or w (u64_or (plusF w0 v0 k) (v0 * 2 ^ k % 18446744073709551616) (plusF_lt _ _ _) (Nat.mod_lt _ (by decide)))) ?_
      refine lst_assign rfl rfl ?_
      refine lst_nil ?_
      refine ex_block_normal ?_
      refine ex_then ?_
      refine cod_region ?_
      refine lst_int rfl rfl rfl (fun w => bin_add w (wrap_i64' _ (by omega) (by omega))) ?_
      refine lst_move rfl rfl ?_
      refine lst_nil ?_
      have e : plusF w0 v0 (k + 1) = plusF w0 v0 k ||| (v0 * 2 ^ k % 18446744073709551616) := if_pos hc1
      refine ex_round (k + 1) (by omega) (by (try dsimp only); omega) (by (try dsimp only); rw [e]; repeat (first | exact Sub.nil _ | refine Sub.cons rfl ?_)) (by repeat (first | exact List.Sublist.refl _ | exact List.nil_sublist _ | refine List.Sublist.cons_cons _ ?_ | refine List.Sublist.cons _ ?_))
    · skip
      refine cod_skip ?_
      refine ex_block_normal ?_
      refine ex_then ?_
      refine cod_region ?_
      refine lst_int rfl rfl rfl (fun w => bin_add w (wrap_i64' _ (by omega) (by omega))) ?_
      refine lst_move rfl rfl ?_
      refine lst_nil ?_
      have e : plusF w0 v0 (k + 1) = plusF w0 v0 k := if_neg (by rw [hc1]; simp)
      refine ex_round (k + 1) (by omega) (by (try dsimp only); omega) (by (try dsimp only); rw [e]; repeat (first | exact Sub.nil _ | refine Sub.cons rfl ?_)) (by repeat (first | exact List.Sublist.refl _ | exact List.nil_sublist _ | refine List.Sublist.cons_cons _ ?_ | refine List.Sublist.cons _ ?_))
  · skip
    refine cod_exit ?_
    refine ex_then_exit ?_
    refine ex_then_exit ?_
    refine ex_block_exit ?_
    refine ex_then ?_
    refine cod_seq ?_
    refine cod_region ?_
    refine lst_move rfl rfl ?_
    refine lst_int rfl rfl rfl (fun w => bin_and w (u64_and (plusF w0 v0 k) 2199023255551 (plusF_lt _ _ _) (by omega))) ?_
    refine lst_assign rfl rfl ?_
    refine lst_nil ?_
    refine ex_then ?_
    refine cod_ret ?_
    obtain rfl : k = 41 := by omega
    exact ex_ret rfl (fun a w ha => res_one rfl rfl ha) (fun a w ha => ⟨rfl, ha.grown (List.nil_sublist _)⟩)

theorem span_c (lo hi : Int) (w : World) : Calls Tryd.prog 52 #[.int .i64 (lo : Int), .int .i64 (hi : Int)] w fun e w' => e = .returned (.int .u64 ((spanN lo hi : Nat) : Int)) ∧ Grew w w' [] := by
  refine enter (N := 25) [(0, .int .i64 (lo : Int)), (1, .int .i64 (hi : Int))] Tryd.func52 rfl Tryd.ntmps52 rfl rfl ?_
  refine cod_seq ?_
  refine cod_region ?_
  refine lst_assign rfl rfl ?_
  refine lst_nil ?_
  refine ex_then ?_
  refine cod_seq ?_
  refine cod_seq ?_
  refine cod_region ?_
  refine lst_cut1 7 11 (.bool (decide (hi < 0 ∨ lo > hi))) ?_ ?_
  · skip
    refine lst_move rfl rfl ?_
    refine lst_int rfl rfl rfl bin_lss ?_
    refine lst_move rfl rfl ?_
    refine lst_split (t := 7) rfl (fun hg7 => ?_) (fun hg7 => ?_)
    · skip
      refine lst_off rfl rfl rfl ?_
      refine lst_off rfl rfl rfl ?_
      refine lst_off rfl rfl rfl ?_
      refine lst_pick_true rfl rfl rfl ?_
      refine lst_nil ?_
      exact ex_cut (.cons (by simp_all [look] <;> (try rw [Bool.eq_iff_iff]) <;> (try simp) <;> omega) (by repeat (first | exact Sub.nil _ | refine Sub.cons rfl ?_))) (by repeat (first | exact List.Sublist.refl _ | exact List.nil_sublist _ | refine List.Sublist.cons_cons _ ?_ | refine List.Sublist.cons _ ?_))
    · skip
      refine lst_on rfl rfl ?_
      refine lst_move rfl rfl ?_
      refine lst_on rfl rfl ?_
      refine lst_move rfl rfl ?_
      refine lst_on rfl rfl ?_
      refine lst_int rfl rfl rfl bin_gtr ?_
      refine lst_pick_false rfl rfl rfl ?_
      refine lst_nil ?_
      exact ex_cut (.cons (by simp_all [look] <;> (try rw [Bool.eq_iff_iff]) <;> (try simp) <;> omega) (by repeat (first | exact Sub.nil _ | refine Sub.cons rfl ?_))) (by repeat (first | exact List.Sublist.refl _ | exact List.nil_sublist _ | refine List.Sublist.cons_cons _ ?_ | refine List.Sublist.cons _ ?_))
  refine lst_nil ?_
  refine ex_then ?_
  refine cod_cond_dec rfl (fun hc0 => ?_) (fun hc0 => ?_)
  · skip
    refine cod_seq ?_
    refine cod_region ?_
    refine lst_assign rfl rfl ?_
    refine lst_nil ?_
    refine ex_then ?_
    refine cod_ret ?_
    refine ex_then_ret ?_
    exact ex_ret rfl (fun a w ha => res_one rfl rfl ha) (fun a w ha => ⟨by unfold spanN; rw [if_pos hc0]; rfl, ha.grown (List.nil_sublist _)⟩)
  · skip
    refine cod_skip ?_
    refine ex_then ?_
    refine cod_seq ?_
    refine cod_region ?_
    refine lst_move rfl rfl ?_
    refine lst_max rfl rfl rfl ?_
    obtain ⟨l, hl⟩ : ∃ l : Nat, (if lo < 0 then 0 else lo) = (l : Int) := ⟨(if lo < 0 then 0 else lo).toNat, by split <;> omega⟩
    have hlm : max lo 0 = (l : Int) := by rw [← hl]; split <;> omega
    rw [hl]
    refine lst_assign rfl rfl ?_
    refine lst_nil ?_
    refine ex_then ?_
    refine cod_seq ?_
    refine cod_seq ?_
    refine cod_region ?_
    refine lst_move rfl rfl ?_
    refine lst_int rfl rfl rfl bin_gtr ?_
    refine lst_nil ?_
    refine ex_then ?_
    refine cod_cond_dec rfl (fun hc1 => ?_) (fun hc1 => ?_)
    · skip
      refine cod_seq ?_
      refine cod_region ?_
      refine lst_assign rfl rfl ?_
      refine lst_nil ?_
      refine ex_then ?_
      refine cod_ret ?_
      refine ex_then_ret ?_
      exact ex_ret rfl (fun a w ha => res_one rfl rfl ha) (fun a w ha => ⟨by unfold spanN; rw [if_neg hc0, if_pos (by omega)]; rfl, ha.grown (List.nil_sublist _)⟩)
    · skip
      have hl40 : l ≤ 40 := by omega
      obtain ⟨h, hh⟩ : ∃ h : Nat, hi = (h : Int) := ⟨hi.toNat, by omega⟩
      subst hh
      have hmn : (if (40 : Int) < (h : Int) then (40 : Int) else (h : Int)) = ((min h 40 : Nat) : Int) := by split <;> omega
      have hsl : (anyN >>> l) <<< l < 18446744073709551616 := Nat.lt_of_le_of_lt (shlr_le _ _) (by decide)
      have hs2 : anyN >>> (40 - min h 40) < 18446744073709551616 := Nat.lt_of_le_of_lt (by rw [Nat.shiftRight_eq_div_pow]; exact Nat.div_le_self _ _) (show anyN < 18446744073709551616 by decide)
      refine cod_skip ?_
      refine ex_then ?_
      refine cod_seq ?_
      refine any_begin [] F.follows 10 rfl [false, false, false, false, false, false, false, false, false, false] rfl ?_
      refine any_take (listed' := [true, false, false, false, false, false, false, false, false, false].toArray) 0 rfl rfl rfl (by kernel_rfl) (by kernel_rfl) (by kernel_rfl) (by repeat (first | exact List.Sublist.refl _ | exact List.nil_sublist _ | refine List.Sublist.cons_cons _ ?_ | refine List.Sublist.cons _ ?_)) (yld_move rfl) rfl ?_
      refine any_take (listed' := [true, true, false, false, false, false, false, false, false, false].toArray) 1 rfl rfl rfl (by kernel_rfl) (by kernel_rfl) (by kernel_rfl) (by repeat (first | exact List.Sublist.refl _ | exact List.nil_sublist _ | refine List.Sublist.cons_cons _ ?_ | refine List.Sublist.cons _ ?_)) (yld_shr (r := ((anyN >>> l : Nat) : Int)) rfl rfl (by omega) (by have := fdiv_shr anyN l 64; rw [show min l 64 = l by omega] at this; exact this)) rfl ?_
      refine any_take (listed' := [true, true, true, false, false, false, false, false, false, false].toArray) 2 rfl rfl rfl (by kernel_rfl) (by kernel_rfl) (by kernel_rfl) (by repeat (first | exact List.Sublist.refl _ | exact List.nil_sublist _ | refine List.Sublist.cons_cons _ ?_ | refine List.Sublist.cons _ ?_)) (yld_move rfl) rfl ?_
      refine any_take (listed' := [true, true, true, true, false, false, false, false, false, false].toArray) 3 rfl rfl rfl (by kernel_rfl) (by kernel_rfl) (by kernel_rfl) (by repeat (first | exact List.Sublist.refl _ | exact List.nil_sublist _ | refine List.Sublist.cons_cons _ ?_ | refine List.Sublist.cons _ ?_)) (yld_shl (r := (((anyN >>> l) <<< l : Nat) : Int)) rfl rfl (by omega) (shl_u64T' hl40 hsl)) rfl ?_
      refine any_take (listed' := [true, true, true, true, true, false, false, false, false, false].toArray) 4 rfl rfl rfl (by kernel_rfl) (by kernel_rfl) (by kernel_rfl) (by repeat (first | exact List.Sublist.refl _ | exact List.nil_sublist _ | refine List.Sublist.cons_cons _ ?_ | refine List.Sublist.cons _ ?_)) (yld_move rfl) rfl ?_
      refine any_take (listed' := [true, true, true, true, true, true, false, false, false, false].toArray) 5 rfl rfl rfl (by kernel_rfl) (by kernel_rfl) (by kernel_rfl) (by repeat (first | exact List.Sublist.refl _ | exact List.nil_sublist _ | refine List.Sublist.cons_cons _ ?_ | refine List.Sublist.cons _ ?_)) (yld_min rfl rfl) rfl ?_
      rw [hmn]
      refine any_take (listed' := [true, true, true, true, true, true, true, false, false, false].toArray) 6 rfl rfl rfl (by kernel_rfl) (by kernel_rfl) (by kernel_rfl) (by repeat (first | exact List.Sublist.refl _ | exact List.nil_sublist _ | refine List.Sublist.cons_cons _ ?_ | refine List.Sublist.cons _ ?_)) (yld_int (v := .int .i64 ((40 - min h 40 : Nat) : Int)) rfl rfl (fun w => bin_sub w (by rw [wrap_i64' _ (by omega) (by omega)]; omega))) rfl ?_
      refine any_take (listed' := [true, true, true, true, true, true, true, true, false, false].toArray) 7 rfl rfl rfl (by kernel_rfl) (by kernel_rfl) (by kernel_rfl) (by repeat (first | exact List.Sublist.refl _ | exact List.nil_sublist _ | refine List.Sublist.cons_cons _ ?_ | refine List.Sublist.cons _ ?_)) (yld_shr (r := ((anyN >>> (40 - min h 40) : Nat) : Int)) rfl rfl (by omega) (by have := fdiv_shr anyN (40 - min h 40) 64; rw [show min (40 - min h 40) 64 = 40 - min h 40 by omega] at this; exact this)) rfl ?_
      refine any_take (listed' := [true, true, true, true, true, true, true, true, true, false].toArray) 8 rfl rfl rfl (by kernel_rfl) (by kernel_rfl) (by kernel_rfl) (by repeat (first | exact List.Sublist.refl _ | exact List.nil_sublist _ | refine List.Sublist.cons_cons _ ?_ | refine List.Sublist.cons _ ?_)) (yld_int rfl rfl (fun w => bin_and w (u64_and _ _ hsl hs2))) rfl ?_
      refine any_take (listed' := [true, true, true, true, true, true, true, true, true, true].toArray) 9 rfl rfl rfl (by kernel_rfl) (by kernel_rfl) (by kernel_rfl) (by repeat (first | exact List.Sublist.refl _ | exact List.nil_sublist _ | refine List.Sublist.cons_cons _ ?_ | refine List.Sublist.cons _ ?_)) (yld_assign rfl) rfl ?_
      refine any_done rfl (by kernel_rfl) ?_
      refine ex_then ?_
      refine cod_ret ?_
      exact ex_ret rfl (fun a w ha => res_one rfl rfl ha) (fun a w ha => ⟨by unfold spanN; rw [if_neg hc0, if_neg (by omega), hlm, Int.toNat_natCast, show (40 - min (h : Int) 40).toNat = 40 - min h 40 by omega], ha.grown (List.nil_sublist _)⟩)

theorem first_c (A : Option Addr) (c : Nat) (l : List Int) (h0 : ∀ x ∈ l, x = 0) (hl : l.length ≤ 1000) (w : World) (hA : RdL icell 1 w A l) : Calls Tryd.prog 49 #[.slice A l.length c] w fun e w' => e = .returned (.int .i64 0) ∧ Grew w w' [] := by
  refine enter (N := 15) [(0, .slice A l.length c)] Tryd.func49 rfl Tryd.ntmps49 rfl rfl ?_
  refine cod_seq ?_
  refine cod_region ?_
  refine lst_assign rfl rfl ?_
  refine lst_nil ?_
  refine ex_then ?_
  refine cod_seq ?_
  refine cod_seq ?_
  refine cod_region ?_
  refine lst_move rfl rfl ?_
  refine lst_len rfl rfl Tryd.underlying150 ?_
  refine lst_move rfl rfl ?_
  refine lst_nil ?_
  refine ex_then ?_
  refine cod_block ?_
  refine cod_loop (G := Nat) (fun k => k ≤ l.length) (fun k => l.length - k) (fun k => [(5, .slice A l.length c), (6, .int .i64 (l.length : Int)), (7, .int .i64 (k : Int))]) (fun k => []) 0 (Nat.zero_le _) (by repeat (first | exact Sub.nil _ | refine Sub.cons rfl ?_)) (by repeat (first | exact List.Sublist.refl _ | exact List.nil_sublist _ | refine List.Sublist.cons_cons _ ?_ | refine List.Sublist.cons _ ?_)) ?_
  intro k hk
  (try dsimp only at hk ⊢)
  refine cod_seq ?_
  refine cod_region ?_
  refine lst_int rfl rfl rfl bin_lss ?_
  refine lst_nil ?_
  refine ex_then ?_
  refine cod_seq ?_
  refine cod_cond_dec rfl (fun hc0 => ?_) (fun hc0 => ?_)
  · skip
    have hk' : k < l.length := by omega
    obtain ⟨b, o, rfl, hb, hcell⟩ := hA (by omega)
    obtain ⟨x, hx⟩ : ∃ x, l[k]? = some x := ⟨_, List.getElem?_eq_getElem hk'⟩
    obtain rfl : x = 0 := h0 x (List.mem_of_getElem? hx)
    refine cod_skip ?_
    refine ex_then ?_
    refine cod_seq ?_
    refine cod_block ?_
    refine cod_seq ?_
    refine cod_region ?_
    refine lst_index (j := k) rfl rfl rfl Tryd.underlying150 F.ti34 rfl hk' ?_
    refine lst_load_at (v := .int .i64 0) rfl rfl F.one34 (fun a w ha => ha.old (hcell k 0 hx 0 _ rfl) hb) ?_
    refine lst_assign rfl rfl ?_
    refine lst_nil ?_
    refine ex_then ?_
    refine cod_seq ?_
    refine cod_region ?_
    refine lst_move rfl rfl ?_
    refine lst_int rfl rfl rfl bin_neq ?_
    refine lst_nil ?_
    refine ex_then ?_
    refine cod_cond_dec rfl (fun hc1 => ?_) (fun hc1 => ?_)
    · skip
      exact absurd rfl hc1 -- done
    · skip
      refine cod_skip ?_
      refine ex_block_normal ?_
      refine ex_then ?_
      refine cod_region ?_
      refine lst_int rfl rfl rfl (fun w => bin_add w (wrap_i64' _ (by omega) (by omega))) ?_
      refine lst_move rfl rfl ?_
      refine lst_nil ?_
      refine ex_round (k + 1) (by omega) (by (try dsimp only); omega) (by repeat (first | exact Sub.nil _ | refine Sub.cons rfl ?_)) (by repeat (first | exact List.Sublist.refl _ | exact List.nil_sublist _ | refine List.Sublist.cons_cons _ ?_ | refine List.Sublist.cons _ ?_))
  · skip
    refine cod_exit ?_
    refine ex_then_exit ?_
    refine ex_then_exit ?_
    refine ex_block_exit ?_
    refine ex_then ?_
    refine cod_seq ?_
    refine cod_region ?_
    refine lst_assign rfl rfl ?_
    refine lst_nil ?_
    refine ex_then ?_
    refine cod_ret ?_
    exact ex_ret rfl (fun a w ha => res_one rfl rfl ha) (fun a w ha => ⟨rfl, ha.grown (List.nil_sublist _)⟩)

end Go.Proofs.YthkbagikmbcphaaDoor.N
