/- Parts of the walk of the law TopCrushed: TopS, T13, TopT, T14, TopU, T15, T16, TopY. -/
import Derived.Test.YthkbagikmbcphaaDoorSTopCrushed05
import Derived.Test.YthkbagikmbcphaaDoorSTopCrushed04
import Derived.Test.YthkbagikmbcphaaDoorSTopCrushed00
import Derived.Test.YthkbagikmbcphaaDoorSTopCrushed01
import Derived.Test.YthkbagikmbcphaaDoorProg
import Derived.Test.YthkbagikmbcphaaDoorSTopCrushed02
import Derived.OrdersIn
namespace Go.Proofs.YthkbagikmbcphaaDoor.N
open Go Go.RowKit Go.Proofs
/-! Loops of few rounds. -/
section
variable {C : Ctx} {fr : List (Nat × Value)} {hp hp' : List Res} {a : Act} {w : World} {Q : Exit → Act → World → Prop}
theorem cod_rounds {c : Code} (n : Nat) (h : Cod C c (Exit.then (Code.rounds C.P c Q n) Q) fr hp) : Cod C (.loop c) Q fr hp := fun a w ha => wp_loop_rounds (n + 1) (h a w ha)
theorem ex_rounds {c : Code} {n : Nat} (h : Cod C c (Exit.then (Code.rounds C.P c Q n) Q) fr hp) : Ex C (Exit.then (Code.rounds C.P c Q (n + 1)) Q) .normal fr hp := fun a w ha => h a w ha
end
/-- A saw of one kind, and one want: some pounds of crushed sugar. -/
structure SawM (w : World) (l : List Nat) (lA : Option Addr) (lc Lb Sb Wb st p : Nat) : Prop where
  len1 : 1 ≤ l.length
  len4 : l.length ≤ 4
  low : ∀ (i : Nat) x, l[i]? = some x → 1 ≤ x
  high : ∀ (i : Nat) x, l[i]? = some x → x ≤ 9
  desc : ∀ (i : Nat) x y, l[i]? = some x → l[i + 1]? = some y → y ≤ x
  st1 : 1 ≤ st
  st4 : st ≤ 4
  p1 : 1 ≤ p
  p60 : p ≤ 60
  least : (st - 1) * sumN l < p
  rl : RdL ncell 1 w lA l
  L : w.cell? ⟨Lb, 0, none⟩ = some (.slice lA l.length lc)
  S : w.cell? ⟨Sb, 0, none⟩ = some (.int .i64 (st : Int))
  W : ∀ (j : Nat) u, [Value.int .i64 1, .int .i64 (-1), .int .i64 (p : Int), .int .i64 0][j]? = some u → w.cell? ⟨Wb, 0 + j, none⟩ = some u
theorem SawM.later {w w' : World} {l : List Nat} {lA : Option Addr} {lc Lb Sb Wb st p : Nat} (h : SawM w l lA lc Lb Sb Wb st p) (hb : Below w.heap.size w w') : SawM w' l lA lc Lb Sb Wb st p :=
  { h with
    rl := h.rl.later hb
    L := (hb.cell (cell_lt h.L)).trans h.L
    S := (hb.cell (cell_lt h.S)).trans h.S
    W := fun j u hj => (hb.cell (cell_lt (h.W j u hj))).trans (h.W j u hj) }
theorem sumN_le9 : ∀ (l : List Nat), (∀ (i : Nat) x, l[i]? = some x → x ≤ 9) → sumN l ≤ 9 * l.length
  | [], _ => by simp [sumN]
  | x :: l, h => by
    rw [sumN_cons, List.length_cons]
    have h1 := h 0 x rfl
    have h2 := sumN_le9 l (fun i y hy => h (i + 1) y hy)
    omega
theorem SawM.sum36 {w : World} {l : List Nat} {lA : Option Addr} {lc Lb Sb Wb st p : Nat} (h : SawM w l lA lc Lb Sb Wb st p) : sumN l ≤ 36 := by
  have h1 := sumN_le9 l h.high
  have h2 := h.len4
  omega
end Go.Proofs.YthkbagikmbcphaaDoor.N
namespace Go.Proofs.YthkbagikmbcphaaDoor.N
open Go Go.RowKit Go.Proofs
theorem F.ent43 : Enters Tryd.prog 43 := enters_of Tryd.func43 rfl (by kernel_rfl)
theorem F.fi40_3 : FI Tryd.prog 40 3 38 3 := ⟨_, _, Tryd.underlying40, rfl, rfl, rfl⟩
theorem F.fi78_0 : FI Tryd.prog 78 0 40 0 := ⟨_, _, Tryd.underlying78, rfl, rfl, rfl⟩
theorem F.one38 : One Tryd.prog 38 := ⟨by unfold aggB; rw [Tryd.underlying38], by rw [Tryd.underlying38]; simp⟩
theorem F.ti38 : TI Tryd.prog 38 (.slice none 0 0) 1 24 := TI.of (by kernel_rfl)
theorem F.ti40 : TI Tryd.prog 40 (.agg [.slice none 0 0, .slice none 0 0, .int .i64 0, .slice none 0 0].toArray) 4 80 := TI.of (by kernel_rfl)
theorem withw_c  (w : World) : Calls Tryd.prog 56 #[.int .u8 0, .int .i64 0] w fun e w' => e = .returned (.int .u8 1) ∧ Grew w w' [] := by
  refine enter (N := 9) [(0, .int .u8 0), (1, .int .i64 0)] Tryd.func56 rfl Tryd.ntmps56 rfl rfl ?_
  refine cod_seq ?_
  refine cod_region ?_
  refine lst_assign rfl rfl ?_
  refine lst_nil ?_
  refine ex_then ?_
  refine cod_seq ?_
  refine cod_region ?_
  refine lst_move rfl rfl ?_
  refine lst_move rfl rfl ?_
  refine lst_shl (r := 1) rfl rfl rfl (by decide) (by decide) ?_
  refine lst_int (v := .int .u8 1) rfl rfl rfl (fun w => bin_or w (by decide)) ?_
  refine lst_assign rfl rfl ?_
  refine lst_nil ?_
  refine ex_then ?_
  refine cod_ret ?_
  exact ex_ret rfl (fun a w ha => res_one rfl rfl ha) (fun a w ha => ⟨rfl, ha.grown (List.nil_sublist _)⟩)

theorem hasw_c (i : Nat) (hi : i < 5) (w : World) : Calls Tryd.prog 43 #[.int .u8 1, .int .i64 (i : Int)] w fun e w' => e = .returned (.bool (decide (i = 0))) ∧ Grew w w' [] := by
  refine enter (N := 10) [(0, .int .u8 1), (1, .int .i64 (i : Int))] Tryd.func43 rfl Tryd.ntmps43 rfl rfl ?_
  refine cod_seq ?_
  refine cod_region ?_
  refine lst_assign rfl rfl ?_
  refine lst_nil ?_
  refine ex_then ?_
  refine cod_seq ?_
  refine cod_region ?_
  refine lst_move rfl rfl ?_
  refine lst_move rfl rfl ?_
  refine lst_shr (r := if i = 0 then 1 else 0) rfl rfl rfl (by omega) (by rcases (show i = 0 ∨ i = 1 ∨ i = 2 ∨ i = 3 ∨ i = 4 by omega) with rfl | rfl | rfl | rfl | rfl <;> decide) ?_
  refine lst_int (v := .int .u8 (if i = 0 then 1 else 0)) rfl rfl rfl (fun w => bin_and w (by split <;> decide)) ?_
  refine lst_cut1 1 9 (.bool (decide (i = 0))) ?_ ?_
  · skip
    refine lst_int rfl rfl rfl bin_eql ?_
    refine lst_nil ?_
    exact ex_cut (.cons (by by_cases h : i = 0 <;> simp [look, h]) (by repeat (first | exact Sub.nil _ | refine Sub.cons rfl ?_))) (by repeat (first | exact List.Sublist.refl _ | exact List.nil_sublist _ | refine List.Sublist.cons_cons _ ?_ | refine List.Sublist.cons _ ?_))
  refine lst_assign rfl rfl ?_
  refine lst_nil ?_
  refine ex_then ?_
  refine cod_ret ?_
  exact ex_ret rfl (fun a w ha => res_one rfl rfl ha) (fun a w ha => ⟨rfl, ha.grown (List.nil_sublist _)⟩)

theorem full_c (Lb Sb Wb : Nat) (w : World) : Calls Tryd.prog 26 #[.agg [.slice (some ⟨Lb, 0, none⟩) 1 1, .slice (some ⟨Sb, 0, none⟩) 1 1, .int .i64 1, .slice (some ⟨Wb, 0, none⟩) 1 1].toArray] w fun e w' => e = .returned (.int .u8 1) ∧ Grew w w' [] := by
  refine enter (N := 9) [(0, .agg [.slice (some ⟨Lb, 0, none⟩) 1 1, .slice (some ⟨Sb, 0, none⟩) 1 1, .int .i64 1, .slice (some ⟨Wb, 0, none⟩) 1 1].toArray)] Tryd.func26 rfl Tryd.ntmps26 rfl rfl ?_
  refine cod_seq ?_
  refine cod_region ?_
  refine lst_box rfl rfl ?_
  intro b1
  refine lst_assign rfl rfl ?_
  refine lst_nil ?_
  refine ex_then ?_
  refine cod_seq ?_
  refine cod_region ?_
  refine lst_field_z rfl rfl F.fi78_0 F.ti40 ?_
  refine lst_field_z rfl rfl F.fi40_3 F.ti38 ?_
  refine lst_load rfl rfl F.one38 ?_
  refine lst_len rfl rfl Tryd.underlying38 ?_
  refine lst_shl (r := 2) rfl rfl rfl (by decide) (by decide) ?_
  refine lst_int (v := .int .u8 1) rfl rfl rfl (fun w => bin_sub w (by decide)) ?_
  refine lst_assign rfl rfl ?_
  refine lst_nil ?_
  refine ex_then ?_
  refine cod_ret ?_
  exact ex_ret rfl (fun a w ha => res_one rfl rfl ha) (fun a w ha => ⟨rfl, ha.grown (List.nil_sublist _)⟩)

theorem listw_c  (w : World) : Calls Tryd.prog 27 #[.int .u8 1] w fun e w' => ∃ (A : Option Addr) (c : Nat), e = .returned (.slice A 1 c) ∧ Grew w w' [.row 3 1 A 1 c [.int .i64 0]] := by
  refine enter (N := 19) [(0, .int .u8 1)] Tryd.func27 rfl Tryd.ntmps27 rfl rfl ?_
  refine cod_seq ?_
  refine cod_region ?_
  refine lst_assign rfl rfl ?_
  refine lst_nil ?_
  refine ex_then ?_
  refine cod_seq ?_
  refine cod_region ?_
  refine lst_assign rfl rfl ?_
  refine lst_nil ?_
  refine ex_then ?_
  refine cod_seq ?_
  refine cod_region ?_
  refine lst_assign rfl rfl ?_
  refine lst_nil ?_
  refine ex_then ?_
  refine cod_seq ?_
  refine cod_seq ?_
  refine cod_region ?_
  refine lst_move rfl rfl ?_
  refine lst_nil ?_
  refine ex_row0 3 1 ?_
  refine ex_then ?_
  refine cod_block ?_
  refine cod_rounds 5 ?_
  refine cod_seq ?_
  refine cod_region ?_
  refine lst_int rfl rfl rfl bin_lss ?_
  refine lst_nil ?_
  refine ex_then ?_
  refine cod_seq ?_
  refine cod_cond_true rfl ?_
  refine cod_skip ?_
  refine ex_then ?_
  refine cod_seq ?_
  refine cod_block ?_
  refine cod_seq ?_
  refine cod_region ?_
  refine lst_move rfl rfl ?_
  refine lst_assign rfl rfl ?_
  refine lst_nil ?_
  refine ex_then ?_
  refine cod_seq ?_
  refine cod_region ?_
  refine lst_move rfl rfl ?_
  refine lst_move rfl rfl ?_
  refine lst_move rfl rfl ?_
  refine lst_dyn0 (v := .bool (decide (0 = 0))) (vs := [_, _]) rfl rfl rfl F.ent43 (fun a w ha => hasw_c 0 (by decide) w) ?_
  refine lst_nil ?_
  refine ex_then ?_
  refine cod_cond_true rfl ?_
  refine cod_region ?_
  refine lst_move rfl rfl ?_
  refine lst_move rfl rfl ?_
  refine lst_lit (vs := [(0, _)]) rfl rfl Tryd.underlying22 F.ti3 rfl rfl rfl ?_
  intro b15
  refine lst_append rfl rfl rfl Tryd.underlying22 F.ti3 rfl rfl rfl (by decide) (by decide) ?_
  intro A c
  refine lst_assign rfl rfl ?_
  refine lst_nil ?_
  refine ex_block_normal ?_
  refine ex_then ?_
  refine cod_region ?_
  refine lst_int (v := .int .i64 1) rfl rfl rfl (fun w => bin_add w (by decide)) ?_
  refine lst_move rfl rfl ?_
  refine lst_nil ?_
  refine ex_rounds ?_
  refine cod_seq ?_
  refine cod_region ?_
  refine lst_int rfl rfl rfl bin_lss ?_
  refine lst_nil ?_
  refine ex_then ?_
  refine cod_seq ?_
  refine cod_cond_true rfl ?_
  refine cod_skip ?_
  refine ex_then ?_
  refine cod_seq ?_
  refine cod_block ?_
  refine cod_seq ?_
  refine cod_region ?_
  refine lst_move rfl rfl ?_
  refine lst_assign rfl rfl ?_
  refine lst_nil ?_
  refine ex_then ?_
  refine cod_seq ?_
  refine cod_region ?_
  refine lst_move rfl rfl ?_
  refine lst_move rfl rfl ?_
  refine lst_move rfl rfl ?_
  refine lst_dyn0 (v := .bool (decide (1 = 0))) (vs := [_, _]) rfl rfl rfl F.ent43 (fun a w ha => hasw_c 1 (by decide) w) ?_
  refine lst_nil ?_
  refine ex_then ?_
  refine cod_cond_false rfl ?_
  refine cod_skip ?_
  refine ex_block_normal ?_
  refine ex_then ?_
  refine cod_region ?_
  refine lst_int (v := .int .i64 2) rfl rfl rfl (fun w => bin_add w (by decide)) ?_
  refine lst_move rfl rfl ?_
  refine lst_nil ?_
  refine ex_rounds ?_
  refine cod_seq ?_
  refine cod_region ?_
  refine lst_int rfl rfl rfl bin_lss ?_
  refine lst_nil ?_
  refine ex_then ?_
  refine cod_seq ?_
  refine cod_cond_true rfl ?_
  refine cod_skip ?_
  refine ex_then ?_
  refine cod_seq ?_
  refine cod_block ?_
  refine cod_seq ?_
  refine cod_region ?_
  refine lst_move rfl rfl ?_
  refine lst_assign rfl rfl ?_
  refine lst_nil ?_
  refine ex_then ?_
  refine cod_seq ?_
  refine cod_region ?_
  refine lst_move rfl rfl ?_
  refine lst_move rfl rfl ?_
  refine lst_move rfl rfl ?_
  refine lst_dyn0 (v := .bool (decide (2 = 0))) (vs := [_, _]) rfl rfl rfl F.ent43 (fun a w ha => hasw_c 2 (by decide) w) ?_
  refine lst_nil ?_
  refine ex_then ?_
  refine cod_cond_false rfl ?_
  refine cod_skip ?_
  refine ex_block_normal ?_
  refine ex_then ?_
  refine cod_region ?_
  refine lst_int (v := .int .i64 3) rfl rfl rfl (fun w => bin_add w (by decide)) ?_
  refine lst_move rfl rfl ?_
  refine lst_nil ?_
  refine ex_rounds ?_
  refine cod_seq ?_
  refine cod_region ?_
  refine lst_int rfl rfl rfl bin_lss ?_
  refine lst_nil ?_
  refine ex_then ?_
  refine cod_seq ?_
  refine cod_cond_true rfl ?_
  refine cod_skip ?_
  refine ex_then ?_
  refine cod_seq ?_
  refine cod_block ?_
  refine cod_seq ?_
  refine cod_region ?_
  refine lst_move rfl rfl ?_
  refine lst_assign rfl rfl ?_
  refine lst_nil ?_
  refine ex_then ?_
  refine cod_seq ?_
  refine cod_region ?_
  refine lst_move rfl rfl ?_
  refine lst_move rfl rfl ?_
  refine lst_move rfl rfl ?_
  refine lst_dyn0 (v := .bool (decide (3 = 0))) (vs := [_, _]) rfl rfl rfl F.ent43 (fun a w ha => hasw_c 3 (by decide) w) ?_
  refine lst_nil ?_
  refine ex_then ?_
  refine cod_cond_false rfl ?_
  refine cod_skip ?_
  refine ex_block_normal ?_
  refine ex_then ?_
  refine cod_region ?_
  refine lst_int (v := .int .i64 4) rfl rfl rfl (fun w => bin_add w (by decide)) ?_
  refine lst_move rfl rfl ?_
  refine lst_nil ?_
  refine ex_rounds ?_
  refine cod_seq ?_
  refine cod_region ?_
  refine lst_int rfl rfl rfl bin_lss ?_
  refine lst_nil ?_
  refine ex_then ?_
  refine cod_seq ?_
  refine cod_cond_true rfl ?_
  refine cod_skip ?_
  refine ex_then ?_
  refine cod_seq ?_
  refine cod_block ?_
  refine cod_seq ?_
  refine cod_region ?_
  refine lst_move rfl rfl ?_
  refine lst_assign rfl rfl ?_
  refine lst_nil ?_
  refine ex_then ?_
  refine cod_seq ?_
  refine cod_region ?_
  refine lst_move rfl rfl ?_
  refine lst_move rfl rfl ?_
  refine lst_move rfl rfl ?_
  refine lst_dyn0 (v := .bool (decide (4 = 0))) (vs := [_, _]) rfl rfl rfl F.ent43 (fun a w ha => hasw_c 4 (by decide) w) ?_
  refine lst_nil ?_
  refine ex_then ?_
  refine cod_cond_false rfl ?_
  refine cod_skip ?_
  refine ex_block_normal ?_
  refine ex_then ?_
  refine cod_region ?_
  refine lst_int (v := .int .i64 5) rfl rfl rfl (fun w => bin_add w (by decide)) ?_
  refine lst_move rfl rfl ?_
  refine lst_nil ?_
  refine ex_rounds ?_
  refine cod_seq ?_
  refine cod_region ?_
  refine lst_int rfl rfl rfl bin_lss ?_
  refine lst_nil ?_
  refine ex_then ?_
  refine cod_seq ?_
  refine cod_cond_false rfl ?_
  refine cod_exit ?_
  refine ex_then_exit ?_
  refine ex_then_exit ?_
  refine ex_block_exit ?_
  refine ex_then ?_
  refine cod_seq ?_
  refine cod_region ?_
  refine lst_move rfl rfl ?_
  refine lst_assign rfl rfl ?_
  refine lst_nil ?_
  refine ex_then ?_
  refine cod_ret ?_
  exact ex_ret rfl (fun a w ha => res_one rfl rfl ha) (fun a w ha => ⟨A, c, rfl, ha.grown (by repeat (first | exact List.Sublist.refl _ | exact List.nil_sublist _ | refine List.Sublist.cons_cons _ ?_ | refine List.Sublist.cons _ ?_))⟩)

end Go.Proofs.YthkbagikmbcphaaDoor.N
namespace Go.Proofs.YthkbagikmbcphaaDoor.N
open Go Go.RowKit Go.Proofs
section
variable {C : Ctx} {fr : List (Nat × Value)} {hp hp' : List Res} {ops : Array Oper} {Q : Exit → Act → World → Prop} {rest : List Oper} {d : Nat} {ty : TypeId} {pos : String} {after : Array Edge}
theorem lst_assert {x : Operand} {s t : TypeId} {ok : Bool} {v r : Value} (hd : Nat.blt d C.N = true) (hx : ev fr x = some v) (hr : ∀ w, (Instr.typeAssert v s t ok).run C.P w = .ok r w)
    (k : Lst C ops Q rest ((d, r) :: fr) hp) : Lst C ops Q (⟨some d, .typeAssert x s t ok, ty, pos, after, none⟩ :: rest) fr hp :=
  lst_value _ hd (fun a w ha => ⟨w, by simp [execOp, ha.eval hx, hr w], ha⟩) k
/-- A method with a body, called by an interface. -/
theorem lst_methodC {X : Type} {x : Operand} {name : String} {t f : Nat} {rv rcv : Value} {vs : List Value} {args : Array Operand} {ts : Array TypeId} {p : X → Prop} {val : X → Value} {rs : X → List Res}
    (hx : ev fr x = some (.iface t rv)) (hargs : args.toList.map (ev fr) = vs.map some)
    (hm : ∀ w, (Go.method (C.P.types.size + Made.depth) t rv name).run C.P w = .ok (f, rcv) w) (hf : Enters C.P f)
    (hd : Nat.blt d C.N = true) (hc : ∀ a w, At C fr hp a w → Calls C.P f (rcv :: vs).toArray w fun e w' => ∃ x, p x ∧ e = .returned (val x) ∧ At C fr (rs x) a w')
    (k : ∀ x, p x → Lst C ops Q rest ((d, val x) :: fr) (rs x)) : Lst C ops Q (⟨some d, .call { callee := .invoke x name, args := args, argTypes := ts }, ty, pos, after, none⟩ :: rest) fr hp := by
  intro a w ha
  refine wpList_plain rfl fun K hK => ?_
  unfold Oper.wp
  have hpr : (program : Sem Program).run C.P w = .ok C.P w := rfl
  have e1 : (#[Value.iface t rv] ++ vs.toArray)[0]? = some (.iface t rv) := by simp
  have e2 : (#[Value.iface t rv] ++ vs.toArray).extract 1 (#[Value.iface t rv] ++ vs.toArray).size = vs.toArray := by simp
  have e3 : #[rcv] ++ vs.toArray = (rcv :: vs).toArray := by simp
  have hr : (execOp a.eval ⟨some d, .call { callee := .invoke x name, args := args, argTypes := ts }, ty, pos, after, none⟩).run C.P w = .ok (.enter f (rcv :: vs).toArray) w := by
    simp only [execOp, resolve, ev_args ha hargs, ha.eval hx, Sem.run_bind, Sem.run_pure, Result.andThen_ok, invoke, e1, e2, callMethod, hpr, hm, e3]
    exact hf _ w
  rw [hr]
  show Calls C.P f _ w _
  refine (hc a w ha).mono ?_
  rintro e w' ⟨x, h1, rfl, h2⟩
  exact hK _ _ (k x h1 _ _ (h2.put (lt_of_blt hd) _))
theorem lst_method_pul {X : Type} (b : Nat) {o : Obj} (o' : X → Obj) {T : List Res} {x : Operand} {name : String} {t f : Nat} {rv rcv : Value} {vs : List Value} {args : Array Operand} {ts : Array TypeId} (p : X → Prop) (val : X → Value) [hq : Pul b o hp T] (hd : Nat.blt d C.N = true)
    (hx : ev fr x = some (.iface t rv)) (hargs : args.toList.map (ev fr) = vs.map some)
    (hm : ∀ w, (Go.method (C.P.types.size + Made.depth) t rv name).run C.P w = .ok (f, rcv) w) (hf : Enters C.P f)
    (hc : ∀ a w, At C fr (.blk b o :: T) a w → Calls C.P f (rcv :: vs).toArray w fun e w' => ∃ y, p y ∧ e = .returned (val y) ∧ At C fr (.blk b (o' y) :: T) a w')
    (k : ∀ y, p y → Lst C ops Q rest ((d, val y) :: fr) (.blk b (o' y) :: T)) : Lst C ops Q (⟨some d, .call { callee := .invoke x name, args := args, argTypes := ts }, ty, pos, after, none⟩ :: rest) fr hp :=
  lst_methodC (p := p) (val := val) (rs := fun y => .blk b (o' y) :: T) hx hargs hm hf hd (fun a w ha => hc a w (ha.permed hq.perm)) k
/-- A whole array. -/
theorem lst_slice_all {x : Operand} {t e : TypeId} {len : Nat} {p : Addr} {size bytes : Nat} {z : Value} (hd : Nat.blt d C.N = true) (hx : ev fr x = some (.pointer (some p)))
    (ht : C.P.underlying t = some (.array len e)) (hi : TI C.P e z size bytes) (k : Lst C ops Q rest ((d, .slice (some p) len len) :: fr) hp) : Lst C ops Q (⟨some d, .slice t x none none none, ty, pos, after, none⟩ :: rest) fr hp := by
  obtain ⟨i, hi1, _⟩ := hi
  have hp0 : p.add 0 = p := by unfold Addr.add; split <;> simp_all
  exact lst_value _ hd (fun a w ha => ⟨w, by
    have hs : (sizeOf e).run C.P w = .ok i.size w := by simp [sizeOf, typeInfo, hi1]
    simp only [execOp, Option.map, ha.eval hx, Instr.sliceAt, run_underlying ht, Sem.run_bind, Result.andThen_ok, Instr.sliceBounds, Sem.run_pure, Instr.sureAddr]
    simp [hs, hp0], ha⟩) k
end
end Go.Proofs.YthkbagikmbcphaaDoor.N
namespace Go.Proofs.YthkbagikmbcphaaDoor.N
open Go Go.RowKit Go.Proofs
theorem F.agg40 : aggB Tryd.prog 40 = true := by unfold aggB; rw [Tryd.underlying40]
theorem F.agg75 : aggB Tryd.prog 75 = true := by unfold aggB; rw [Tryd.underlying75]
theorem F.agg78 : aggB Tryd.prog 78 = true := by unfold aggB; rw [Tryd.underlying78]
theorem F.ent38 : Enters Tryd.prog 38 := enters_of Tryd.func38 rfl (by kernel_rfl)
theorem F.ent39 : Enters Tryd.prog 39 := enters_of Tryd.func39 rfl (by kernel_rfl)
theorem F.ent44 : Enters Tryd.prog 44 := enters_of Tryd.func44 rfl (by kernel_rfl)
theorem F.ent54 : Enters Tryd.prog 54 := enters_of Tryd.func54 rfl (by kernel_rfl)
theorem F.ent55 : Enters Tryd.prog 55 := enters_of Tryd.func55 rfl (by kernel_rfl)
theorem F.ent56 : Enters Tryd.prog 56 := enters_of Tryd.func56 rfl (by kernel_rfl)
theorem F.fi40_0 : FI Tryd.prog 40 0 37 0 := ⟨_, _, Tryd.underlying40, rfl, rfl, rfl⟩
theorem F.fi40_1 : FI Tryd.prog 40 1 22 1 := ⟨_, _, Tryd.underlying40, rfl, rfl, rfl⟩
theorem F.fi40_2 : FI Tryd.prog 40 2 3 2 := ⟨_, _, Tryd.underlying40, rfl, rfl, rfl⟩
theorem F.fi75_0 : FI Tryd.prog 75 0 3 0 := ⟨_, _, Tryd.underlying75, rfl, rfl, rfl⟩
theorem F.fi75_1 : FI Tryd.prog 75 1 3 1 := ⟨_, _, Tryd.underlying75, rfl, rfl, rfl⟩
theorem F.fi75_2 : FI Tryd.prog 75 2 3 2 := ⟨_, _, Tryd.underlying75, rfl, rfl, rfl⟩
theorem F.fi75_3 : FI Tryd.prog 75 3 3 3 := ⟨_, _, Tryd.underlying75, rfl, rfl, rfl⟩
theorem F.one37 : One Tryd.prog 37 := ⟨by unfold aggB; rw [Tryd.underlying37], by rw [Tryd.underlying37]; simp⟩
theorem F.pl78 : Places Tryd.prog 78 [(0, 4)] := .inl ⟨_, Tryd.underlying78, by kernel_rfl⟩
theorem F.ti37 : TI Tryd.prog 37 (.slice none 0 0) 1 24 := TI.of (by kernel_rfl)
theorem F.ti75 : TI Tryd.prog 75 (.agg [.int .i64 0, .int .i64 0, .int .i64 0, .int .i64 0].toArray) 4 32 := TI.of (by kernel_rfl)
theorem F.ti78 : TI Tryd.prog 78 (.agg [.slice none 0 0, .slice none 0 0, .int .i64 0, .slice none 0 0].toArray) 4 80 := TI.of (by kernel_rfl)
theorem checkLoaf_c (l : List Nat) (lA : Option Addr) (lc : Nat) (hl1 : 1 ≤ l.length) (hl4 : l.length ≤ 4) (h1 : ∀ (i : Nat) x, l[i]? = some x → 1 ≤ x) (h9 : ∀ (i : Nat) x, l[i]? = some x → x ≤ 9) (hd : ∀ (i : Nat) x y, l[i]? = some x → l[i + 1]? = some y → y ≤ x) (w : World) (hr : RdL ncell 1 w lA l) : Calls Tryd.prog 54 #[.slice lA l.length lc] w fun e w' => e = .returned (.int .i64 0) ∧ Grew w w' [] := by
  refine enter (N := 34) [(0, .slice lA l.length lc)] Tryd.func54 rfl Tryd.ntmps54 rfl rfl ?_
  refine cod_seq ?_
  refine cod_region ?_
  refine lst_assign rfl rfl ?_
  refine lst_nil ?_
  refine ex_then ?_
  refine cod_seq ?_
  refine cod_seq ?_
  refine cod_region ?_
  refine lst_move rfl rfl ?_
  refine lst_len rfl rfl Tryd.underlying22 ?_
  refine lst_fn0 (v := .int .i64 0) (vs := [_, _, _]) rfl rfl F.ent44 (fun a w ha => (sized_c (l.length : Int) 1 4 w).mono (fun e w' h => ⟨by rw [h.1, if_neg (by omega), if_neg (by omega)], h.2⟩)) ?_
  refine lst_assign rfl rfl ?_
  refine lst_nil ?_
  refine ex_then ?_
  refine cod_seq ?_
  refine cod_region ?_
  refine lst_move rfl rfl ?_
  refine lst_int rfl rfl rfl bin_neq ?_
  refine lst_nil ?_
  refine ex_then ?_
  refine cod_cond_dec rfl (fun hc0 => ?_) (fun hc0 => ?_)
  · skip
    exact absurd rfl hc0 -- done
  · skip
    refine cod_skip ?_
    refine ex_then ?_
    refine cod_seq ?_
    refine cod_seq ?_
    refine cod_region ?_
    refine lst_move rfl rfl ?_
    refine lst_len rfl rfl Tryd.underlying22 ?_
    refine lst_move rfl rfl ?_
    refine lst_nil ?_
    refine ex_then ?_
    refine cod_block ?_
    refine cod_loop (G := Nat) (fun k => k ≤ l.length) (fun k => l.length - k) (fun k => [(0, .slice lA l.length lc), (12, .slice lA l.length lc), (13, .int .i64 (l.length : Int)), (14, .int .i64 (k : Int))]) (fun k => []) 0 (Nat.zero_le _) (by repeat (first | exact Sub.nil _ | refine Sub.cons rfl ?_)) (by repeat (first | exact List.Sublist.refl _ | exact List.nil_sublist _ | refine List.Sublist.cons_cons _ ?_ | refine List.Sublist.cons _ ?_)) ?_
    intro k hk
    (try dsimp only at hk ⊢)
    refine cod_seq ?_
    refine cod_region ?_
    refine lst_int rfl rfl rfl bin_lss ?_
    refine lst_nil ?_
    refine ex_then ?_
    refine cod_seq ?_
    refine cod_cond_dec rfl (fun hc1 => ?_) (fun hc1 => ?_)
    · skip
      have hk' : k < l.length := by omega
      obtain ⟨b, o, rfl, hb, hcell⟩ := hr (by omega)
      obtain ⟨x, hx⟩ : ∃ x, l[k]? = some x := ⟨_, List.getElem?_eq_getElem hk'⟩
      have hx1 := h1 k x hx
      have hx9 := h9 k x hx
      refine cod_skip ?_
      refine ex_then ?_
      refine cod_seq ?_
      refine cod_block ?_
      refine cod_seq ?_
      refine cod_region ?_
      refine lst_move rfl rfl ?_
      refine lst_index (j := k) rfl rfl rfl Tryd.underlying22 F.ti3 rfl hk' ?_
      refine lst_load_at (v := .int .i64 (x : Int)) rfl rfl F.one3 (fun a w ha => ha.old (hcell k x hx 0 _ rfl) hb) ?_
      refine lst_assign rfl rfl ?_
      refine lst_assign rfl rfl ?_
      refine lst_nil ?_
      refine ex_then ?_
      refine cod_seq ?_
      refine cod_seq ?_
      refine cod_region ?_
      refine lst_move rfl rfl ?_
      refine lst_fn0 (v := .bool true) (vs := [_, _, _]) rfl rfl F.ent39 (fun a w ha => (within_c (x : Int) 1 9 w).mono (fun e w' h => ⟨by rw [h.1]; refine congrArg (fun b => Ending.returned (Value.bool b)) ?_; simp <;> omega, h.2⟩)) ?_
      refine lst_not rfl rfl ?_
      refine lst_nil ?_
      refine ex_then ?_
      refine cod_cond_false rfl ?_
      refine cod_skip ?_
      refine ex_then ?_
      refine cod_seq ?_
      refine cod_region ?_
      refine lst_cut1 11 32 (.bool false) ?_ ?_
      · skip
        refine lst_move rfl rfl ?_
        refine lst_int rfl rfl rfl bin_gtr ?_
        refine lst_move rfl rfl ?_
        refine lst_split (t := 24) rfl (fun hg24 => ?_) (fun hg24 => ?_)
        · skip
          refine lst_on rfl rfl ?_
          refine lst_move rfl rfl ?_
          refine lst_on rfl rfl ?_
          refine lst_move rfl rfl ?_
          refine lst_on rfl rfl ?_
          refine lst_move rfl rfl ?_
          refine lst_on rfl rfl ?_
          have hk1 : 1 ≤ k := by simp at hg24; omega
          obtain ⟨y, hy⟩ : ∃ y, l[k - 1]? = some y := ⟨_, List.getElem?_eq_getElem (by omega)⟩
          refine lst_int (v := .int .i64 ((k - 1 : Nat) : Int)) rfl rfl rfl (fun w => bin_sub w (by rw [wrap_i64' _ (by omega) (by omega)]; omega)) ?_
          refine lst_on rfl rfl ?_
          refine lst_index (j := k - 1) rfl rfl rfl Tryd.underlying22 F.ti3 rfl (by omega) ?_
          refine lst_on rfl rfl ?_
          refine lst_load_at (v := .int .i64 (y : Int)) rfl rfl F.one3 (fun a w ha => ha.old (hcell (k - 1) y hy 0 _ rfl) hb) ?_
          refine lst_on rfl rfl ?_
          refine lst_int rfl rfl rfl bin_gtr ?_
          refine lst_pick_true rfl rfl rfl ?_
          refine lst_nil ?_
          exact ex_cut (.cons (by first | rfl | (refine congrArg (fun b => some (Value.bool b)) ?_; have := hd (k - 1) y x hy (by rw [show k - 1 + 1 = k by omega]; exact hx); simp; omega)) (by repeat (first | exact Sub.nil _ | refine Sub.cons rfl ?_))) (by repeat (first | exact List.Sublist.refl _ | exact List.nil_sublist _ | refine List.Sublist.cons_cons _ ?_ | refine List.Sublist.cons _ ?_))
        · skip
          refine lst_off rfl rfl rfl ?_
          refine lst_off rfl rfl rfl ?_
          refine lst_off rfl rfl rfl ?_
          refine lst_off rfl rfl rfl ?_
          refine lst_off rfl rfl rfl ?_
          refine lst_off rfl rfl rfl ?_
          refine lst_off rfl rfl rfl ?_
          refine lst_pick_false rfl rfl rfl ?_
          refine lst_nil ?_
          exact ex_cut (.cons (by first | rfl | (refine congrArg (fun b => some (Value.bool b)) ?_; have := hd (k - 1) y x hy (by rw [show k - 1 + 1 = k by omega]; exact hx); simp; omega)) (by repeat (first | exact Sub.nil _ | refine Sub.cons rfl ?_))) (by repeat (first | exact List.Sublist.refl _ | exact List.nil_sublist _ | refine List.Sublist.cons_cons _ ?_ | refine List.Sublist.cons _ ?_))
      refine lst_nil ?_
      refine ex_then ?_
      refine cod_cond_false rfl ?_
      refine cod_skip ?_
      refine ex_block_normal ?_
      refine ex_then ?_
      refine cod_region ?_
      refine lst_int rfl rfl rfl (fun w => bin_add w (wrap_i64' _ (by omega) (by omega))) ?_
      refine lst_move rfl rfl ?_
      refine lst_nil ?_
      refine ex_round (k + 1) (by omega) (by (try dsimp only); omega) (by repeat (first | exact Sub.nil _ | refine Sub.cons rfl ?_)) (by repeat (first | exact List.Sublist.refl _ | exact List.nil_sublist _ | refine List.Sublist.cons_cons _ ?_ | refine List.Sublist.cons _ ?_))
    · skip
      refine cod_exit ?_
      refine ex_then_exit ?_
      refine ex_then_exit ?_
      refine ex_block_exit ?_
      refine ex_then ?_
      refine cod_seq ?_
      refine cod_region ?_
      refine lst_assign rfl rfl ?_
      refine lst_nil ?_
      refine ex_then ?_
      refine cod_ret ?_
      exact ex_ret rfl (fun a w ha => res_one rfl rfl ha) (fun a w ha => ⟨rfl, ha.grown (List.nil_sublist _)⟩)

theorem checkWant_c (Lb Sb Wb p : Nat) (hp1 : 1 ≤ p) (hp60 : p ≤ 60) (w : World) : Calls Tryd.prog 55 #[.agg [.slice (some ⟨Lb, 0, none⟩) 1 1, .slice (some ⟨Sb, 0, none⟩) 1 1, .int .i64 1, .slice (some ⟨Wb, 0, none⟩) 1 1].toArray, .agg [.int .i64 1, .int .i64 (-1), .int .i64 (p : Int), .int .i64 0].toArray] w fun e w' => e = .returned (.int .i64 0) ∧ Grew w w' [] := by
  refine enter (N := 47) [(0, .agg [.slice (some ⟨Lb, 0, none⟩) 1 1, .slice (some ⟨Sb, 0, none⟩) 1 1, .int .i64 1, .slice (some ⟨Wb, 0, none⟩) 1 1].toArray), (1, .agg [.int .i64 1, .int .i64 (-1), .int .i64 (p : Int), .int .i64 0].toArray)] Tryd.func55 rfl Tryd.ntmps55 rfl rfl ?_
  refine cod_seq ?_
  refine cod_region ?_
  refine lst_box rfl rfl ?_
  intro b2
  refine lst_box rfl rfl ?_
  intro b3
  refine lst_assign rfl rfl ?_
  refine lst_nil ?_
  refine ex_then ?_
  refine cod_seq ?_
  refine cod_region ?_
  refine lst_assign rfl rfl ?_
  refine lst_assign rfl rfl ?_
  refine lst_assign rfl rfl ?_
  refine lst_nil ?_
  refine ex_then ?_
  refine cod_seq ?_
  refine cod_seq ?_
  refine cod_region ?_
  refine lst_field_z rfl rfl F.fi75_0 F.ti3 ?_
  refine lst_load rfl rfl F.one3 ?_
  refine lst_nil ?_
  refine ex_then ?_
  refine cod_block ?_
  refine cod_seq ?_
  refine cod_block ?_
  refine cod_seq ?_
  refine cod_block ?_
  refine cod_seq ?_
  refine cod_block ?_
  refine cod_seq ?_
  refine cod_block ?_
  refine cod_seq ?_
  refine cod_seq ?_
  refine cod_seq ?_
  refine cod_region ?_
  refine lst_int rfl rfl rfl bin_eql ?_
  refine lst_assign rfl rfl ?_
  refine lst_nil ?_
  refine ex_then ?_
  refine cod_cond_true rfl ?_
  refine cod_exit ?_
  refine ex_then_exit ?_
  refine ex_then_exit ?_
  refine ex_block_exit ?_
  refine ex_then ?_
  refine cod_seq ?_
  refine cod_region ?_
  refine lst_assign rfl rfl ?_
  refine lst_assign rfl rfl ?_
  refine lst_assign rfl rfl ?_
  refine lst_nil ?_
  refine ex_then ?_
  refine cod_exit ?_
  refine ex_block_other rfl ?_
  refine ex_then_exit ?_
  refine ex_block_other rfl ?_
  refine ex_then_exit ?_
  refine ex_block_other rfl ?_
  refine ex_then_exit ?_
  refine ex_block_exit ?_
  refine ex_then ?_
  refine cod_seq ?_
  refine cod_seq ?_
  refine cod_region ?_
  refine lst_field_z rfl rfl F.fi75_1 F.ti3 ?_
  refine lst_load rfl rfl F.one3 ?_
  refine lst_move rfl rfl ?_
  refine lst_field_z rfl rfl F.fi40_0 F.ti37 ?_
  refine lst_load rfl rfl F.one37 ?_
  refine lst_len rfl rfl Tryd.underlying37 ?_
  refine lst_int (v := .int .i64 0) rfl rfl rfl (fun w => bin_sub w (by decide)) ?_
  refine lst_fn0 (v := .bool true) (vs := [_, _, _]) rfl rfl F.ent39 (fun a w ha => (within_c (-1) (-1) 0 w).mono (fun e w' h => ⟨by rw [h.1]; refine congrArg (fun b => Ending.returned (Value.bool b)) ?_; simp <;> omega, h.2⟩)) ?_
  refine lst_not rfl rfl ?_
  refine lst_nil ?_
  refine ex_then ?_
  refine cod_cond_false rfl ?_
  refine cod_skip ?_
  refine ex_then ?_
  refine cod_seq ?_
  refine cod_seq ?_
  refine cod_region ?_
  refine lst_move rfl rfl ?_
  refine lst_int rfl rfl rfl bin_lss ?_
  refine lst_nil ?_
  refine ex_then ?_
  refine cod_cond_false rfl ?_
  refine cod_skip ?_
  refine ex_then ?_
  refine cod_seq ?_
  refine cod_seq ?_
  refine cod_region ?_
  refine lst_field_z rfl rfl F.fi75_2 F.ti3 ?_
  refine lst_load rfl rfl F.one3 ?_
  refine lst_move rfl rfl ?_
  refine lst_move rfl rfl ?_
  refine lst_fn0 (v := .bool true) (vs := [_, _, _]) rfl rfl F.ent39 (fun a w ha => (within_c (p : Int) 1 60 w).mono (fun e w' h => ⟨by rw [h.1]; refine congrArg (fun b => Ending.returned (Value.bool b)) ?_; simp <;> omega, h.2⟩)) ?_
  refine lst_not rfl rfl ?_
  refine lst_move rfl rfl ?_
  refine lst_on rfl rfl ?_
  refine lst_field_z rfl rfl F.fi75_3 F.ti3 ?_
  refine lst_on rfl rfl ?_
  refine lst_load rfl rfl F.one3 ?_
  refine lst_on rfl rfl ?_
  refine lst_fn0 (v := .bool true) (vs := [_, _, _]) rfl rfl F.ent39 (fun a w ha => (within_c 0 0 30 w).mono (fun e w' h => ⟨by rw [h.1]; refine congrArg (fun b => Ending.returned (Value.bool b)) ?_; simp <;> omega, h.2⟩)) ?_
  refine lst_on rfl rfl ?_
  refine lst_not rfl rfl ?_
  refine lst_pick_false rfl rfl rfl ?_
  refine lst_nil ?_
  refine ex_then ?_
  refine cod_cond_false rfl ?_
  refine cod_skip ?_
  refine ex_then ?_
  refine cod_seq ?_
  refine cod_region ?_
  refine lst_assign rfl rfl ?_
  refine lst_nil ?_
  refine ex_then ?_
  refine cod_ret ?_
  exact ex_ret rfl (fun a w ha => res_one rfl rfl ha) (fun a w ha => ⟨rfl, ha.grown (List.nil_sublist _)⟩)

theorem sCheck_c (l : List Nat) (lA : Option Addr) (lc Lb Sb Wb st p : Nat) (w : World) (hM : SawM w l lA lc Lb Sb Wb st p) : Calls Tryd.prog 38 #[.agg [.slice (some ⟨Lb, 0, none⟩) 1 1, .slice (some ⟨Sb, 0, none⟩) 1 1, .int .i64 1, .slice (some ⟨Wb, 0, none⟩) 1 1].toArray] w fun e w' => e = .returned (.int .i64 0) ∧ Grew w w' [] := by
  refine enter (N := 72) [(0, .agg [.slice (some ⟨Lb, 0, none⟩) 1 1, .slice (some ⟨Sb, 0, none⟩) 1 1, .int .i64 1, .slice (some ⟨Wb, 0, none⟩) 1 1].toArray)] Tryd.func38 rfl Tryd.ntmps38 rfl rfl ?_
  refine cod_seq ?_
  refine cod_region ?_
  refine lst_box rfl rfl ?_
  intro b1
  refine lst_assign rfl rfl ?_
  refine lst_nil ?_
  refine ex_then ?_
  refine cod_seq ?_
  refine cod_seq ?_
  refine cod_region ?_
  refine lst_field_z rfl rfl F.fi40_0 F.ti37 ?_
  refine lst_load rfl rfl F.one37 ?_
  refine lst_len rfl rfl Tryd.underlying37 ?_
  refine lst_fn0 (v := .int .i64 0) (vs := [_, _, _]) rfl rfl F.ent44 (fun a w ha => (sized_c 1 1 3 w).mono (fun e w' h => ⟨by rw [h.1, if_neg (by omega), if_neg (by omega)], h.2⟩)) ?_
  refine lst_assign rfl rfl ?_
  refine lst_nil ?_
  refine ex_then ?_
  refine cod_seq ?_
  refine cod_region ?_
  refine lst_move rfl rfl ?_
  refine lst_int rfl rfl rfl bin_neq ?_
  refine lst_nil ?_
  refine ex_then ?_
  refine cod_cond_false rfl ?_
  refine cod_skip ?_
  refine ex_then ?_
  refine cod_seq ?_
  refine cod_seq ?_
  refine cod_region ?_
  refine lst_field_z rfl rfl F.fi40_0 F.ti37 ?_
  refine lst_load rfl rfl F.one37 ?_
  refine lst_len rfl rfl Tryd.underlying37 ?_
  refine lst_move rfl rfl ?_
  refine lst_nil ?_
  refine ex_then ?_
  refine cod_block ?_
  refine cod_rounds 1 ?_
  refine cod_seq ?_
  refine cod_region ?_
  refine lst_int rfl rfl rfl bin_lss ?_
  refine lst_nil ?_
  refine ex_then ?_
  refine cod_seq ?_
  refine cod_cond_true rfl ?_
  refine cod_skip ?_
  refine ex_then ?_
  refine cod_seq ?_
  refine cod_block ?_
  refine cod_seq ?_
  refine cod_region ?_
  refine lst_index (j := 0) rfl rfl rfl Tryd.underlying37 F.ti22 rfl (by decide) ?_
  refine lst_load_at (v := .slice lA l.length lc) rfl rfl F.one22 (fun a w ha => ha.old hM.L (cell_lt hM.L)) ?_
  refine lst_assign rfl rfl ?_
  refine lst_nil ?_
  refine ex_then ?_
  refine cod_seq ?_
  refine cod_region ?_
  refine lst_move rfl rfl ?_
  refine lst_fn0 (vs := [_]) rfl rfl F.ent54 (fun a w ha => checkLoaf_c l lA lc hM.len1 hM.len4 hM.low hM.high hM.desc w (hM.later ha.below).rl) ?_
  refine lst_assign rfl rfl ?_
  refine lst_nil ?_
  refine ex_then ?_
  refine cod_seq ?_
  refine cod_region ?_
  refine lst_move rfl rfl ?_
  refine lst_int rfl rfl rfl bin_neq ?_
  refine lst_nil ?_
  refine ex_then ?_
  refine cod_cond_false rfl ?_
  refine cod_skip ?_
  refine ex_block_normal ?_
  refine ex_then ?_
  refine cod_region ?_
  refine lst_int (v := .int .i64 1) rfl rfl rfl (fun w => bin_add w (by decide)) ?_
  refine lst_move rfl rfl ?_
  refine lst_nil ?_
  refine ex_rounds ?_
  refine cod_seq ?_
  refine cod_region ?_
  refine lst_int rfl rfl rfl bin_lss ?_
  refine lst_nil ?_
  refine ex_then ?_
  refine cod_seq ?_
  refine cod_cond_false rfl ?_
  refine cod_exit ?_
  refine ex_then_exit ?_
  refine ex_then_exit ?_
  refine ex_block_exit ?_
  refine ex_then ?_
  refine cod_seq ?_
  refine cod_seq ?_
  refine cod_region ?_
  refine lst_field_z rfl rfl F.fi40_1 F.ti22 ?_
  refine lst_load rfl rfl F.one22 ?_
  refine lst_len rfl rfl Tryd.underlying22 ?_
  refine lst_field_z rfl rfl F.fi40_0 F.ti37 ?_
  refine lst_load rfl rfl F.one37 ?_
  refine lst_len rfl rfl Tryd.underlying37 ?_
  refine lst_int rfl rfl rfl bin_neq ?_
  refine lst_nil ?_
  refine ex_then ?_
  refine cod_cond_false rfl ?_
  refine cod_skip ?_
  refine ex_then ?_
  refine cod_seq ?_
  refine cod_seq ?_
  refine cod_region ?_
  refine lst_field_z rfl rfl F.fi40_1 F.ti22 ?_
  refine lst_load rfl rfl F.one22 ?_
  refine lst_len rfl rfl Tryd.underlying22 ?_
  refine lst_move rfl rfl ?_
  refine lst_nil ?_
  refine ex_then ?_
  refine cod_block ?_
  refine cod_rounds 1 ?_
  refine cod_seq ?_
  refine cod_region ?_
  refine lst_int rfl rfl rfl bin_lss ?_
  refine lst_nil ?_
  refine ex_then ?_
  refine cod_seq ?_
  refine cod_cond_true rfl ?_
  refine cod_skip ?_
  refine ex_then ?_
  refine cod_seq ?_
  refine cod_block ?_
  refine cod_seq ?_
  refine cod_region ?_
  refine lst_index (j := 0) rfl rfl rfl Tryd.underlying22 F.ti3 rfl (by decide) ?_
  refine lst_load_at (v := .int .i64 (st : Int)) rfl rfl F.one3 (fun a w ha => ha.old hM.S (cell_lt hM.S)) ?_
  refine lst_assign rfl rfl ?_
  refine lst_nil ?_
  refine ex_then ?_
  refine cod_seq ?_
  refine cod_region ?_
  have h4 := hM.st4
  refine lst_move rfl rfl ?_
  refine lst_fn0 (v := .bool true) (vs := [_, _, _]) rfl rfl F.ent39 (fun a w ha => (within_c (st : Int) 0 4 w).mono (fun e w' h => ⟨by rw [h.1]; refine congrArg (fun b => Ending.returned (Value.bool b)) ?_; simp <;> omega, h.2⟩)) ?_
  refine lst_not rfl rfl ?_
  refine lst_nil ?_
  refine ex_then ?_
  refine cod_cond_false rfl ?_
  refine cod_skip ?_
  refine ex_block_normal ?_
  refine ex_then ?_
  refine cod_region ?_
  refine lst_int (v := .int .i64 1) rfl rfl rfl (fun w => bin_add w (by decide)) ?_
  refine lst_move rfl rfl ?_
  refine lst_nil ?_
  refine ex_rounds ?_
  refine cod_seq ?_
  refine cod_region ?_
  refine lst_int rfl rfl rfl bin_lss ?_
  refine lst_nil ?_
  refine ex_then ?_
  refine cod_seq ?_
  refine cod_cond_false rfl ?_
  refine cod_exit ?_
  refine ex_then_exit ?_
  refine ex_then_exit ?_
  refine ex_block_exit ?_
  refine ex_then ?_
  refine cod_seq ?_
  refine cod_seq ?_
  refine cod_region ?_
  refine lst_field_z rfl rfl F.fi40_2 F.ti3 ?_
  refine lst_load rfl rfl F.one3 ?_
  refine lst_fn0 (v := .bool true) (vs := [_, _, _]) rfl rfl F.ent39 (fun a w ha => (within_c 1 0 3 w).mono (fun e w' h => ⟨by rw [h.1]; refine congrArg (fun b => Ending.returned (Value.bool b)) ?_; simp <;> omega, h.2⟩)) ?_
  refine lst_not rfl rfl ?_
  refine lst_nil ?_
  refine ex_then ?_
  refine cod_cond_false rfl ?_
  refine cod_skip ?_
  refine ex_then ?_
  refine cod_seq ?_
  refine cod_seq ?_
  refine cod_region ?_
  refine lst_field_z rfl rfl F.fi40_3 F.ti38 ?_
  refine lst_load rfl rfl F.one38 ?_
  refine lst_len rfl rfl Tryd.underlying38 ?_
  refine lst_int rfl rfl rfl bin_gtr ?_
  refine lst_nil ?_
  refine ex_then ?_
  refine cod_cond_false rfl ?_
  refine cod_skip ?_
  refine ex_then ?_
  refine cod_seq ?_
  refine cod_seq ?_
  refine cod_region ?_
  refine lst_field_z rfl rfl F.fi40_3 F.ti38 ?_
  refine lst_load rfl rfl F.one38 ?_
  refine lst_len rfl rfl Tryd.underlying38 ?_
  refine lst_move rfl rfl ?_
  refine lst_nil ?_
  refine ex_then ?_
  refine cod_block ?_
  refine cod_rounds 1 ?_
  refine cod_seq ?_
  refine cod_region ?_
  refine lst_int rfl rfl rfl bin_lss ?_
  refine lst_nil ?_
  refine ex_then ?_
  refine cod_seq ?_
  refine cod_cond_true rfl ?_
  refine cod_skip ?_
  refine ex_then ?_
  refine cod_seq ?_
  refine cod_block ?_
  refine cod_seq ?_
  refine cod_region ?_
  refine lst_index (j := 0) rfl rfl rfl Tryd.underlying38 F.ti75 rfl (by decide) ?_
  refine lst_loadN_at (l := [.int .i64 1, .int .i64 (-1), .int .i64 (p : Int), .int .i64 0]) rfl rfl F.agg75 F.ti75 rfl (fun a w ha j u hj => ha.old (hM.W j u hj) (cell_lt (hM.W j u hj))) ?_
  refine lst_alloc rfl F.ti75 ?_
  intro b10
  refine lst_store rfl rfl F.ti75 rfl ?_
  refine lst_nil ?_
  refine ex_then ?_
  refine cod_seq ?_
  refine cod_region ?_
  refine lst_loadN rfl rfl F.agg40 F.ti40 ?_
  refine lst_loadN rfl rfl F.agg75 F.ti75 ?_
  refine lst_fn0 (vs := [_, _]) rfl rfl F.ent55 (fun a w ha => checkWant_c Lb Sb Wb p hM.p1 hM.p60 w) ?_
  refine lst_assign rfl rfl ?_
  refine lst_nil ?_
  refine ex_then ?_
  refine cod_seq ?_
  refine cod_region ?_
  refine lst_move rfl rfl ?_
  refine lst_int rfl rfl rfl bin_neq ?_
  refine lst_nil ?_
  refine ex_then ?_
  refine cod_cond_false rfl ?_
  refine cod_skip ?_
  refine ex_block_normal ?_
  refine ex_then ?_
  refine cod_region ?_
  refine lst_int (v := .int .i64 1) rfl rfl rfl (fun w => bin_add w (by decide)) ?_
  refine lst_move rfl rfl ?_
  refine lst_nil ?_
  refine ex_rounds ?_
  refine cod_seq ?_
  refine cod_region ?_
  refine lst_int rfl rfl rfl bin_lss ?_
  refine lst_nil ?_
  refine ex_then ?_
  refine cod_seq ?_
  refine cod_cond_false rfl ?_
  refine cod_exit ?_
  refine ex_then_exit ?_
  refine ex_then_exit ?_
  refine ex_block_exit ?_
  refine ex_then ?_
  refine cod_seq ?_
  refine cod_region ?_
  refine lst_assign rfl rfl ?_
  refine lst_nil ?_
  refine ex_then ?_
  refine cod_ret ?_
  exact ex_ret rfl (fun a w ha => res_one rfl rfl ha) (fun a w ha => ⟨rfl, ha.grown (List.nil_sublist _)⟩)

theorem sopen_c (l : List Nat) (lA : Option Addr) (lc Lb Sb Wb st p : Nat) (w : World) (hM : SawM w l lA lc Lb Sb Wb st p) : Calls Tryd.prog 24 #[.agg [.slice (some ⟨Lb, 0, none⟩) 1 1, .slice (some ⟨Sb, 0, none⟩) 1 1, .int .i64 1, .slice (some ⟨Wb, 0, none⟩) 1 1].toArray, .slice none 0 0, .slice none 0 0] w fun e w' => e = .returned (.tuple #[.agg [.slice (some ⟨Lb, 0, none⟩) 1 1, .slice (some ⟨Sb, 0, none⟩) 1 1, .int .i64 1, .slice (some ⟨Wb, 0, none⟩) 1 1].toArray, .int .i64 0]) ∧ Grew w w' [] := by
  refine enter (N := 52) [(0, .agg [.slice (some ⟨Lb, 0, none⟩) 1 1, .slice (some ⟨Sb, 0, none⟩) 1 1, .int .i64 1, .slice (some ⟨Wb, 0, none⟩) 1 1].toArray), (1, .slice none 0 0), (2, .slice none 0 0)] Tryd.func24 rfl Tryd.ntmps24 rfl rfl ?_
  refine cod_seq ?_
  refine cod_region ?_
  refine lst_box rfl rfl ?_
  intro b3
  refine lst_alloc rfl F.ti78 ?_
  intro b6
  refine lst_assign rfl rfl ?_
  refine lst_nil ?_
  refine ex_then ?_
  refine cod_seq ?_
  refine cod_seq ?_
  refine cod_region ?_
  refine lst_loadN rfl rfl F.agg40 F.ti40 ?_
  refine lst_fn0 (vs := [_]) rfl rfl F.ent38 (fun a w ha => sCheck_c l lA lc Lb Sb Wb st p w (hM.later ha.below)) ?_
  refine lst_assign rfl rfl ?_
  refine lst_nil ?_
  refine ex_then ?_
  refine cod_seq ?_
  refine cod_region ?_
  refine lst_move rfl rfl ?_
  refine lst_int rfl rfl rfl bin_neq ?_
  refine lst_nil ?_
  refine ex_then ?_
  refine cod_cond_false rfl ?_
  refine cod_skip ?_
  refine ex_then ?_
  refine cod_seq ?_
  refine cod_seq ?_
  refine cod_region ?_
  refine lst_move rfl rfl ?_
  refine lst_move rfl rfl ?_
  refine lst_lit (vs := [(0, _), (1, _)]) rfl rfl Tryd.underlying37 F.ti22 rfl rfl rfl ?_
  intro b21
  refine lst_len rfl rfl Tryd.underlying37 ?_
  refine lst_move rfl rfl ?_
  refine lst_nil ?_
  refine ex_then ?_
  refine cod_block ?_
  refine cod_rounds 2 ?_
  refine cod_seq ?_
  refine cod_region ?_
  refine lst_int rfl rfl rfl bin_lss ?_
  refine lst_nil ?_
  refine ex_then ?_
  refine cod_seq ?_
  refine cod_cond_true rfl ?_
  refine cod_skip ?_
  refine ex_then ?_
  refine cod_seq ?_
  refine cod_block ?_
  refine cod_seq ?_
  refine cod_region ?_
  refine lst_move rfl rfl ?_
  refine lst_index_sl (j := 0) rfl rfl rfl Tryd.underlying37 F.ti22 rfl (by decide) ?_
  refine lst_load rfl rfl F.one22 ?_
  refine lst_assign rfl rfl ?_
  refine lst_assign rfl rfl ?_
  refine lst_nil ?_
  refine ex_then ?_
  refine cod_seq ?_
  refine cod_region ?_
  refine lst_move rfl rfl ?_
  refine lst_len rfl rfl Tryd.underlying22 ?_
  refine lst_move rfl rfl ?_
  refine lst_nil ?_
  refine ex_then ?_
  refine cod_block ?_
  refine cod_rounds 0 ?_
  refine cod_seq ?_
  refine cod_region ?_
  refine lst_int rfl rfl rfl bin_lss ?_
  refine lst_nil ?_
  refine ex_then ?_
  refine cod_seq ?_
  refine cod_cond_false rfl ?_
  refine cod_exit ?_
  refine ex_then_exit ?_
  refine ex_then_exit ?_
  refine ex_block_exit ?_
  refine ex_block_normal ?_
  refine ex_then ?_
  refine cod_region ?_
  refine lst_int (v := .int .i64 1) rfl rfl rfl (fun w => bin_add w (by decide)) ?_
  refine lst_move rfl rfl ?_
  refine lst_nil ?_
  refine ex_rounds ?_
  refine cod_seq ?_
  refine cod_region ?_
  refine lst_int rfl rfl rfl bin_lss ?_
  refine lst_nil ?_
  refine ex_then ?_
  refine cod_seq ?_
  refine cod_cond_true rfl ?_
  refine cod_skip ?_
  refine ex_then ?_
  refine cod_seq ?_
  refine cod_block ?_
  refine cod_seq ?_
  refine cod_region ?_
  refine lst_move rfl rfl ?_
  refine lst_index_sl (j := 1) rfl rfl rfl Tryd.underlying37 F.ti22 rfl (by decide) ?_
  refine lst_load rfl rfl F.one22 ?_
  refine lst_assign rfl rfl ?_
  refine lst_assign rfl rfl ?_
  refine lst_nil ?_
  refine ex_then ?_
  refine cod_seq ?_
  refine cod_region ?_
  refine lst_move rfl rfl ?_
  refine lst_len rfl rfl Tryd.underlying22 ?_
  refine lst_move rfl rfl ?_
  refine lst_nil ?_
  refine ex_then ?_
  refine cod_block ?_
  refine cod_rounds 0 ?_
  refine cod_seq ?_
  refine cod_region ?_
  refine lst_int rfl rfl rfl bin_lss ?_
  refine lst_nil ?_
  refine ex_then ?_
  refine cod_seq ?_
  refine cod_cond_false rfl ?_
  refine cod_exit ?_
  refine ex_then_exit ?_
  refine ex_then_exit ?_
  refine ex_block_exit ?_
  refine ex_block_normal ?_
  refine ex_then ?_
  refine cod_region ?_
  refine lst_int (v := .int .i64 2) rfl rfl rfl (fun w => bin_add w (by decide)) ?_
  refine lst_move rfl rfl ?_
  refine lst_nil ?_
  refine ex_rounds ?_
  refine cod_seq ?_
  refine cod_region ?_
  refine lst_int rfl rfl rfl bin_lss ?_
  refine lst_nil ?_
  refine ex_then ?_
  refine cod_seq ?_
  refine cod_cond_false rfl ?_
  refine cod_exit ?_
  refine ex_then_exit ?_
  refine ex_then_exit ?_
  refine ex_block_exit ?_
  refine ex_then ?_
  refine cod_seq ?_
  refine cod_region ?_
  refine lst_loadN rfl rfl F.agg40 F.ti40 ?_
  refine lst_struct (vs := [(0, _)]) (l' := [_, _, _, _]) rfl rfl F.ti78 F.pl78 (.cons rfl rfl (.nil _)) rfl ?_
  refine lst_store rfl rfl F.ti78 rfl ?_
  refine lst_assign rfl rfl ?_
  refine lst_nil ?_
  refine ex_then ?_
  refine cod_ret ?_
  exact ex_ret rfl (fun a w ha => res_cellN_tmp rfl rfl rfl F.agg78 F.ti78 rfl ha) (fun a w ha => ⟨rfl, ha.grown (by repeat (first | exact List.Sublist.refl _ | exact List.nil_sublist _ | refine List.Sublist.cons_cons _ ?_ | refine List.Sublist.cons _ ?_))⟩)

theorem sread_c (A : Option Addr) (c Lb Sb Wb : Nat) (w : World) (hA : RdL ncell 1 w A [0]) : Calls Tryd.prog 40 #[.agg [.slice (some ⟨Lb, 0, none⟩) 1 1, .slice (some ⟨Sb, 0, none⟩) 1 1, .int .i64 1, .slice (some ⟨Wb, 0, none⟩) 1 1].toArray, .slice A 1 c] w fun e w' => e = .returned (.tuple #[.int .u8 1, .int .i64 0]) ∧ Grew w w' [] := by
  refine enter (N := 40) [(0, .agg [.slice (some ⟨Lb, 0, none⟩) 1 1, .slice (some ⟨Sb, 0, none⟩) 1 1, .int .i64 1, .slice (some ⟨Wb, 0, none⟩) 1 1].toArray), (1, .slice A 1 c)] Tryd.func40 rfl Tryd.ntmps40 rfl rfl ?_
  refine cod_seq ?_
  refine cod_region ?_
  refine lst_box rfl rfl ?_
  intro b2
  refine lst_assign rfl rfl ?_
  refine lst_assign rfl rfl ?_
  refine lst_nil ?_
  refine ex_then ?_
  refine cod_seq ?_
  refine cod_region ?_
  refine lst_assign rfl rfl ?_
  refine lst_nil ?_
  refine ex_then ?_
  refine cod_seq ?_
  refine cod_seq ?_
  refine cod_region ?_
  refine lst_move rfl rfl ?_
  refine lst_len rfl rfl Tryd.underlying22 ?_
  refine lst_move rfl rfl ?_
  refine lst_nil ?_
  refine ex_then ?_
  refine cod_block ?_
  refine cod_rounds 1 ?_
  obtain ⟨b, o, rfl, hb, hcell⟩ := hA (by decide)
  refine cod_seq ?_
  refine cod_region ?_
  refine lst_int rfl rfl rfl bin_lss ?_
  refine lst_nil ?_
  refine ex_then ?_
  refine cod_seq ?_
  refine cod_cond_true rfl ?_
  refine cod_skip ?_
  refine ex_then ?_
  refine cod_seq ?_
  refine cod_block ?_
  refine cod_seq ?_
  refine cod_region ?_
  refine lst_move rfl rfl ?_
  refine lst_index (j := 0) rfl rfl rfl Tryd.underlying22 F.ti3 rfl (by decide) ?_
  refine lst_load_at (v := .int .i64 0) rfl rfl F.one3 (fun a w ha => ha.old (hcell 0 0 rfl 0 _ rfl) hb) ?_
  refine lst_assign rfl rfl ?_
  refine lst_assign rfl rfl ?_
  refine lst_nil ?_
  refine ex_then ?_
  refine cod_seq ?_
  refine cod_seq ?_
  refine cod_region ?_
  refine lst_move rfl rfl ?_
  refine lst_field_z rfl rfl F.fi78_0 F.ti40 ?_
  refine lst_field_z rfl rfl F.fi40_3 F.ti38 ?_
  refine lst_load rfl rfl F.one38 ?_
  refine lst_len rfl rfl Tryd.underlying38 ?_
  refine lst_int (v := .int .i64 0) rfl rfl rfl (fun w => bin_sub w (by decide)) ?_
  refine lst_fn0 (v := .bool true) (vs := [_, _, _]) rfl rfl F.ent39 (fun a w ha => (within_c 0 0 0 w).mono (fun e w' h => ⟨by rw [h.1]; refine congrArg (fun b => Ending.returned (Value.bool b)) ?_; simp <;> omega, h.2⟩)) ?_
  refine lst_not rfl rfl ?_
  refine lst_nil ?_
  refine ex_then ?_
  refine cod_cond_false rfl ?_
  refine cod_skip ?_
  refine ex_then ?_
  refine cod_seq ?_
  refine cod_seq ?_
  refine cod_region ?_
  refine lst_move rfl rfl ?_
  refine lst_int rfl rfl rfl bin_gtr ?_
  refine lst_move rfl rfl ?_
  refine lst_off rfl rfl rfl ?_
  refine lst_off rfl rfl rfl ?_
  refine lst_off rfl rfl rfl ?_
  refine lst_off rfl rfl rfl ?_
  refine lst_off rfl rfl rfl ?_
  refine lst_off rfl rfl rfl ?_
  refine lst_off rfl rfl rfl ?_
  refine lst_pick_false rfl rfl rfl ?_
  refine lst_nil ?_
  refine ex_then ?_
  refine cod_cond_false rfl ?_
  refine cod_skip ?_
  refine ex_then ?_
  refine cod_region ?_
  refine lst_move rfl rfl ?_
  refine lst_move rfl rfl ?_
  refine lst_fn0 (vs := [_, _]) rfl rfl F.ent56 (fun a w ha => withw_c w) ?_
  refine lst_assign rfl rfl ?_
  refine lst_nil ?_
  refine ex_block_normal ?_
  refine ex_then ?_
  refine cod_region ?_
  refine lst_int (v := .int .i64 1) rfl rfl rfl (fun w => bin_add w (by decide)) ?_
  refine lst_move rfl rfl ?_
  refine lst_nil ?_
  refine ex_rounds ?_
  refine cod_seq ?_
  refine cod_region ?_
  refine lst_int rfl rfl rfl bin_lss ?_
  refine lst_nil ?_
  refine ex_then ?_
  refine cod_seq ?_
  refine cod_cond_false rfl ?_
  refine cod_exit ?_
  refine ex_then_exit ?_
  refine ex_then_exit ?_
  refine ex_block_exit ?_
  refine ex_then ?_
  refine cod_seq ?_
  refine cod_region ?_
  refine lst_move rfl rfl ?_
  refine lst_assign rfl rfl ?_
  refine lst_assign rfl rfl ?_
  refine lst_nil ?_
  refine ex_then ?_
  refine cod_ret ?_
  exact ex_ret rfl (fun a w ha => res_two rfl rfl rfl ha) (fun a w ha => ⟨rfl, ha.grown (List.nil_sublist _)⟩)

end Go.Proofs.YthkbagikmbcphaaDoor.N
namespace Go.Proofs.YthkbagikmbcphaaDoor.N
open Go Go.RowKit Go.Proofs
theorem Saw.serve (h : Value) (w : World) : (Go.method (Tryd.prog.types.size + Made.depth) 171 h "muscovado/saw.serve").run Tryd.prog w = .ok (102, h) w := by kernel_rfl
theorem Saw.as173 (h : Value) (w : World) : (Instr.typeAssert (.iface 171 h) 143 173 true).run Tryd.prog w = .ok (.tuple #[.agg #[.int .i64 0, .int .i64 0], .bool false]) w := by kernel_rfl
theorem Saw.as169 (h : Value) (w : World) : (Instr.typeAssert (.iface 171 h) 143 169 true).run Tryd.prog w = .ok (.tuple #[.agg #[.int .i64 0], .bool false]) w := by kernel_rfl
theorem Saw.as171 (h : Value) (w : World) : (Instr.typeAssert (.iface 171 h) 143 171 true).run Tryd.prog w = .ok (.tuple #[h, .bool true]) w := by kernel_rfl
theorem SawM.rs {w : World} {l : List Nat} {lA : Option Addr} {lc Lb Sb Wb st p : Nat} (h : SawM w l lA lc Lb Sb Wb st p) : RdL ncell 1 w (some ⟨Sb, 0, none⟩) [st] := fun _ => by
  refine ⟨Sb, 0, rfl, cell_lt h.S, fun k x hk j u hu => ?_⟩
  match k, hk with
  | 0, hk =>
    obtain rfl : st = x := by simpa using hk
    match j, hu with
    | 0, hu => obtain rfl : Value.int .i64 (st : Int) = u := by simpa [ncell] using hu
               exact h.S
theorem RdL.pre {α : Type} {cells : α → List Value} {size : Nat} {w : World} {A : Option Addr} {l m : List α} (h : RdL cells size w A (l ++ m)) : RdL cells size w A l := fun hl => by
  obtain ⟨b, o, h1, h2, h3⟩ := h (by rw [List.length_append]; omega)
  exact ⟨b, o, h1, h2, fun k x hk => h3 k x (by rw [List.getElem?_append_left ((List.getElem?_eq_some_iff.1 hk).1)]; exact hk)⟩
end Go.Proofs.YthkbagikmbcphaaDoor.N
namespace Go.Proofs.YthkbagikmbcphaaDoor.N
open Go Go.RowKit Go.Proofs
theorem F.agg86 : aggB Tryd.prog 86 = true := by unfold aggB; rw [Tryd.underlying86]
theorem F.agg88 : aggB Tryd.prog 88 = true := by unfold aggB; rw [Tryd.underlying88]
theorem F.ent102 : Enters Tryd.prog 102 := enters_of Tryd.func102 rfl (by kernel_rfl)
theorem F.ent27 : Enters Tryd.prog 27 := enters_of Tryd.func27 rfl (by kernel_rfl)
theorem F.ent48 : Enters Tryd.prog 48 := enters_of Tryd.func48 rfl (by kernel_rfl)
theorem F.ent61 : Enters Tryd.prog 61 := enters_of Tryd.func61 rfl (by kernel_rfl)
theorem F.ent62 : Enters Tryd.prog 62 := enters_of Tryd.func62 rfl (by kernel_rfl)
theorem F.fi171_0 : FI Tryd.prog 171 0 3 0 := ⟨_, _, Tryd.underlying171, rfl, rfl, rfl⟩
theorem F.fi171_1 : FI Tryd.prog 171 1 3 1 := ⟨_, _, Tryd.underlying171, rfl, rfl, rfl⟩
theorem F.fi88_0 : FI Tryd.prog 88 0 86 0 := ⟨_, _, Tryd.underlying88, rfl, rfl, rfl⟩
theorem F.fi88_1 : FI Tryd.prog 88 1 86 3 := ⟨_, _, Tryd.underlying88, rfl, rfl, rfl⟩
theorem F.fi88_2 : FI Tryd.prog 88 2 86 6 := ⟨_, _, Tryd.underlying88, rfl, rfl, rfl⟩
theorem F.fi88_3 : FI Tryd.prog 88 3 3 9 := ⟨_, _, Tryd.underlying88, rfl, rfl, rfl⟩
theorem F.pl171 : Places Tryd.prog 171 [(0, 1), (1, 1)] := .inl ⟨_, Tryd.underlying171, by kernel_rfl⟩
theorem F.ti171 : TI Tryd.prog 171 (.agg [.int .i64 0, .int .i64 0].toArray) 2 16 := TI.of (by kernel_rfl)
theorem F.ti86 : TI Tryd.prog 86 (.agg [.int .i64 0, .int .i64 0, .int .i64 0].toArray) 3 24 := TI.of (by kernel_rfl)
theorem F.ti88 : TI Tryd.prog 88 (.agg [.int .i64 0, .int .i64 0, .int .i64 0, .int .i64 0, .int .i64 0, .int .i64 0, .int .i64 0, .int .i64 0, .int .i64 0, .int .i64 0].toArray) 10 80 := TI.of (by kernel_rfl)
theorem sorder_c (Lb Sb Wb p : Nat) (w : World) : Calls Tryd.prog 61 #[.agg [.slice (some ⟨Lb, 0, none⟩) 1 1, .slice (some ⟨Sb, 0, none⟩) 1 1, .int .i64 1, .slice (some ⟨Wb, 0, none⟩) 1 1].toArray, .agg [.int .i64 1, .int .i64 (-1), .int .i64 (p : Int), .int .i64 0].toArray] w fun e w' => e = .returned (.iface 171 (.agg [.int .i64 (-1), .int .i64 (p : Int)].toArray)) ∧ Grew w w' [] := by
  refine enter (N := 46) [(0, .agg [.slice (some ⟨Lb, 0, none⟩) 1 1, .slice (some ⟨Sb, 0, none⟩) 1 1, .int .i64 1, .slice (some ⟨Wb, 0, none⟩) 1 1].toArray), (1, .agg [.int .i64 1, .int .i64 (-1), .int .i64 (p : Int), .int .i64 0].toArray)] Tryd.func61 rfl Tryd.ntmps61 rfl rfl ?_
  refine cod_seq ?_
  refine cod_region ?_
  refine lst_box rfl rfl ?_
  intro b2
  refine lst_box rfl rfl ?_
  intro b3
  refine lst_assign rfl rfl ?_
  refine lst_nil ?_
  refine ex_then ?_
  refine cod_seq ?_
  refine cod_seq ?_
  refine cod_region ?_
  refine lst_field_z rfl rfl F.fi75_0 F.ti3 ?_
  refine lst_load rfl rfl F.one3 ?_
  refine lst_nil ?_
  refine ex_then ?_
  refine cod_block ?_
  refine cod_seq ?_
  refine cod_region ?_
  refine lst_int rfl rfl rfl bin_eql ?_
  refine lst_assign rfl rfl ?_
  refine lst_nil ?_
  refine ex_then ?_
  refine cod_cond_false rfl ?_
  refine cod_seq ?_
  refine cod_region ?_
  refine lst_int rfl rfl rfl bin_eql ?_
  refine lst_assign rfl rfl ?_
  refine lst_nil ?_
  refine ex_then ?_
  refine cod_cond_true rfl ?_
  refine cod_seq ?_
  refine cod_region ?_
  refine lst_field_z rfl rfl F.fi75_1 F.ti3 ?_
  refine lst_load rfl rfl F.one3 ?_
  refine lst_field_z rfl rfl F.fi75_2 F.ti3 ?_
  refine lst_load rfl rfl F.one3 ?_
  refine lst_struct (vs := [(0, _), (1, _)]) (l' := [_, _]) rfl rfl F.ti171 F.pl171 (.cons rfl rfl (.cons rfl rfl (.nil _))) rfl ?_
  refine lst_makeInterface rfl rfl Tryd.underlying171 rfl ?_
  refine lst_assign rfl rfl ?_
  refine lst_nil ?_
  refine ex_then ?_
  refine cod_ret ?_
  refine ex_block_ret ?_
  refine ex_then_ret ?_
  exact ex_ret rfl (fun a w ha => res_one rfl rfl ha) (fun a w ha => ⟨rfl, ha.grown (List.nil_sublist _)⟩)

theorem serve_c {C : Ctx} {fr : List (Nat × Value)} {T : List Res} {a : Act} {w : World} (hC : C.P = Tryd.prog) {pb p : Nat} (hp60 : p ≤ 60) (ha : At C fr (.blk pb (.cells [.int .i64 0, .int .i64 0, .int .i64 0, .int .i64 0, .int .i64 0, .int .i64 0, .int .i64 0, .int .i64 0, .int .i64 0, .int .i64 0].toArray 88 (0, 0)) :: T) a w) : Calls C.P 102 #[.agg [.int .i64 (-1), .int .i64 (p : Int)].toArray, .pointer (some ⟨pb, 0, none⟩)] w fun e w' => (∃ v, e = .returned v) ∧ At C fr (.blk pb (.cells [.int .i64 0, .int .i64 0, .int .i64 0, .int .i64 0, .int .i64 0, .int .i64 0, .int .i64 0, .int .i64 0, .int .i64 0, .int .i64 (p : Int)].toArray 88 (0, 0)) :: T) a w' := by
  obtain ⟨P, B, w0, N0, ds⟩ := C
  obtain rfl : P = Tryd.prog := hC
  (try dsimp only at hB)
  (try dsimp only at hN)
  refine enter_in (N := 29) [(0, .agg [.int .i64 (-1), .int .i64 (p : Int)].toArray), (1, .pointer (some ⟨pb, 0, none⟩))] ha Tryd.func102 rfl Tryd.ntmps102 rfl rfl ?_
  refine cod_seq ?_
  refine cod_region ?_
  refine lst_box rfl rfl ?_
  intro b2
  refine lst_nil ?_
  refine ex_then ?_
  refine cod_seq ?_
  refine cod_seq ?_
  refine cod_region ?_
  refine lst_field_z rfl rfl F.fi171_0 F.ti3 ?_
  refine lst_load rfl rfl F.one3 ?_
  refine lst_int rfl rfl rfl bin_lss ?_
  refine lst_nil ?_
  refine ex_then ?_
  refine cod_cond_true rfl ?_
  refine cod_seq ?_
  refine any_begin [.b pb] F.follows 10 rfl [false, false, false, false, false, false, false, false, false, false] rfl ?_
  refine any_take (listed' := [true, false, false, false, false, false, false, false, false, false].toArray) 0 rfl rfl rfl (by kernel_rfl) (by kernel_rfl) (by kernel_rfl) (by repeat (first | exact List.Sublist.refl _ | exact List.nil_sublist _ | refine List.Sublist.cons_cons _ ?_ | refine List.Sublist.cons _ ?_)) (yld_move rfl) rfl ?_
  refine any_take (listed' := [true, true, false, false, false, false, false, false, false, false].toArray) 1 rfl rfl rfl (by kernel_rfl) (by kernel_rfl) (by kernel_rfl) (by repeat (first | exact List.Sublist.refl _ | exact List.nil_sublist _ | refine List.Sublist.cons_cons _ ?_ | refine List.Sublist.cons _ ?_)) (yld_nilCheck rfl) rfl ?_
  refine any_take (listed' := [true, true, true, false, false, false, false, false, false, false].toArray) 2 rfl rfl rfl (by kernel_rfl) (by kernel_rfl) (by kernel_rfl) (by repeat (first | exact List.Sublist.refl _ | exact List.nil_sublist _ | refine List.Sublist.cons_cons _ ?_ | refine List.Sublist.cons _ ?_)) (yld_field_z rfl F.fi88_3 F.ti3) rfl ?_
  refine any_take (listed' := [true, true, true, false, true, false, false, false, false, false].toArray) 4 rfl rfl rfl (by kernel_rfl) (by kernel_rfl) (by kernel_rfl) (by repeat (first | exact List.Sublist.refl _ | exact List.nil_sublist _ | refine List.Sublist.cons_cons _ ?_ | refine List.Sublist.cons _ ?_)) (yld_field_z rfl F.fi171_1 F.ti3) rfl ?_
  refine any_take (listed' := [true, true, true, false, true, true, false, false, false, false].toArray) 5 rfl rfl rfl (by kernel_rfl) (by kernel_rfl) (by kernel_rfl) (by repeat (first | exact List.Sublist.refl _ | exact List.nil_sublist _ | refine List.Sublist.cons_cons _ ?_ | refine List.Sublist.cons _ ?_)) (yld_load rfl F.one3) rfl ?_
  refine any_one (listed' := [true, true, true, true, true, true, false, false, false, false].toArray) 3 (by kernel_rfl) rfl rfl ?_
  refine lst_load rfl rfl F.one3 ?_
  refine lst_nil ?_
  refine any_next (by repeat (first | exact List.Sublist.refl _ | exact List.nil_sublist _ | refine List.Sublist.cons_cons _ ?_ | refine List.Sublist.cons _ ?_)) ?_
  refine any_one (listed' := [true, true, true, true, true, true, true, false, false, false].toArray) 6 (by kernel_rfl) rfl rfl ?_
  refine lst_int (v := .int .i64 (p : Int)) rfl rfl rfl (fun w => bin_add w (by rw [wrap_i64' _ (by omega) (by omega)] <;> omega)) ?_
  refine lst_nil ?_
  refine any_next (by repeat (first | exact List.Sublist.refl _ | exact List.nil_sublist _ | refine List.Sublist.cons_cons _ ?_ | refine List.Sublist.cons _ ?_)) ?_
  refine any_take (listed' := [true, true, true, true, true, true, true, true, false, false].toArray) 7 rfl rfl rfl (by kernel_rfl) (by kernel_rfl) (by kernel_rfl) (by repeat (first | exact List.Sublist.refl _ | exact List.nil_sublist _ | refine List.Sublist.cons_cons _ ?_ | refine List.Sublist.cons _ ?_)) (yld_nilCheck rfl) rfl ?_
  refine any_take (listed' := [true, true, true, true, true, true, true, true, true, false].toArray) 8 rfl rfl rfl (by kernel_rfl) (by kernel_rfl) (by kernel_rfl) (by repeat (first | exact List.Sublist.refl _ | exact List.nil_sublist _ | refine List.Sublist.cons_cons _ ?_ | refine List.Sublist.cons _ ?_)) (yld_field_z rfl F.fi88_3 F.ti3) rfl ?_
  refine any_one (listed' := [true, true, true, true, true, true, true, true, true, true].toArray) 9 (by kernel_rfl) rfl rfl ?_
  refine lst_store rfl rfl F.ti3 rfl ?_
  refine lst_nil ?_
  refine any_next (by repeat (first | exact List.Sublist.refl _ | exact List.nil_sublist _ | refine List.Sublist.cons_cons _ ?_ | refine List.Sublist.cons _ ?_)) ?_
  refine any_done rfl (by kernel_rfl) ?_
  refine ex_then ?_
  refine cod_ret ?_
  refine ex_then_ret ?_
  exact ex_ret rfl (fun a w ha => res_none rfl ha) (fun _ _ ha' => ⟨⟨_, rfl⟩, ha.back (ha'.pck (by repeat (first | exact Pck.nil _ | exact Pck.refl _ | (apply Pck.cons; focus ((repeat (first | exact Rem.here _ | apply Rem.there)); done)) | refine Pck.skip _ ?_)))⟩)

theorem lsum_c (a b c : Nat) (ha : a ≤ 1000) (hb : b ≤ 1000) (hc : c ≤ 1000) (w : World) : Calls Tryd.prog 48 #[.agg [.int .i64 (a : Int), .int .i64 (b : Int), .int .i64 (c : Int)].toArray] w fun e w' => e = .returned (.int .i64 (sumN [a, b, c] : Int)) ∧ Grew w w' [] := by
  refine enter (N := 5) [(0, .agg [.int .i64 (a : Int), .int .i64 (b : Int), .int .i64 (c : Int)].toArray)] Tryd.func48 rfl Tryd.ntmps48 rfl rfl ?_
  refine cod_seq ?_
  refine cod_region ?_
  refine lst_box rfl rfl ?_
  intro b1
  refine lst_assign rfl rfl ?_
  refine lst_nil ?_
  refine ex_then ?_
  refine cod_seq ?_
  refine cod_region ?_
  refine lst_slice_all rfl rfl Tryd.underlying86 F.ti3 ?_
  refine lst_fn0 (vs := [_]) rfl rfl F.ent62 (fun a' w ha => sum_c (some ⟨b1, 0, none⟩) 3 [a, b, c] (by simp [sumN]; omega) (by simp) w (blk_reads ha (cells := ncell) (size := 1) (l := [a, b, c]) (fun _ => rfl) rfl)) ?_
  refine lst_assign rfl rfl ?_
  refine lst_nil ?_
  refine ex_then ?_
  refine cod_ret ?_
  exact ex_ret rfl (fun a w ha => res_one rfl rfl ha) (fun a w ha => ⟨rfl, ha.grown (List.nil_sublist _)⟩)

theorem sleft_c (k m p : Nat) (hm : m ≤ 1000) (hp60 : p ≤ 60) (w : World) : Calls Tryd.prog 29 #[.agg [.int .i64 (k : Int), .int .i64 0, .int .i64 0, .int .i64 (m : Int), .int .i64 0, .int .i64 0, .int .i64 0, .int .i64 0, .int .i64 0, .int .i64 (p : Int)].toArray] w fun e w' => e = .returned (.int .i64 ((m : Int) - (p : Int))) ∧ Grew w w' [] := by
  refine enter (N := 13) [(0, .agg [.int .i64 (k : Int), .int .i64 0, .int .i64 0, .int .i64 (m : Int), .int .i64 0, .int .i64 0, .int .i64 0, .int .i64 0, .int .i64 0, .int .i64 (p : Int)].toArray)] Tryd.func29 rfl Tryd.ntmps29 rfl rfl ?_
  refine cod_seq ?_
  refine cod_region ?_
  refine lst_box rfl rfl ?_
  intro b1
  refine lst_assign rfl rfl ?_
  refine lst_nil ?_
  refine ex_then ?_
  refine cod_seq ?_
  refine any_begin [] F.follows 11 rfl [false, false, false, false, false, false, false, false, false, false, false] rfl ?_
  refine any_take (listed' := [true, false, false, false, false, false, false, false, false, false, false].toArray) 0 rfl rfl rfl (by kernel_rfl) (by kernel_rfl) (by kernel_rfl) (by repeat (first | exact List.Sublist.refl _ | exact List.nil_sublist _ | refine List.Sublist.cons_cons _ ?_ | refine List.Sublist.cons _ ?_)) (yld_field_z rfl F.fi88_1 F.ti86) rfl ?_
  refine any_take (listed' := [true, true, false, false, false, false, false, false, false, false, false].toArray) 1 rfl rfl rfl (by kernel_rfl) (by kernel_rfl) (by kernel_rfl) (by repeat (first | exact List.Sublist.refl _ | exact List.nil_sublist _ | refine List.Sublist.cons_cons _ ?_ | refine List.Sublist.cons _ ?_)) (yld_loadN rfl F.agg86 F.ti86) rfl ?_
  refine any_take (listed' := [true, true, false, true, false, false, false, false, false, false, false].toArray) 3 rfl rfl rfl (by kernel_rfl) (by kernel_rfl) (by kernel_rfl) (by repeat (first | exact List.Sublist.refl _ | exact List.nil_sublist _ | refine List.Sublist.cons_cons _ ?_ | refine List.Sublist.cons _ ?_)) (yld_field_z rfl F.fi88_2 F.ti86) rfl ?_
  refine any_take (listed' := [true, true, false, true, true, false, false, false, false, false, false].toArray) 4 rfl rfl rfl (by kernel_rfl) (by kernel_rfl) (by kernel_rfl) (by repeat (first | exact List.Sublist.refl _ | exact List.nil_sublist _ | refine List.Sublist.cons_cons _ ?_ | refine List.Sublist.cons _ ?_)) (yld_loadN rfl F.agg86 F.ti86) rfl ?_
  refine any_take (listed' := [true, true, false, true, true, false, false, true, false, false, false].toArray) 7 rfl rfl rfl (by kernel_rfl) (by kernel_rfl) (by kernel_rfl) (by repeat (first | exact List.Sublist.refl _ | exact List.nil_sublist _ | refine List.Sublist.cons_cons _ ?_ | refine List.Sublist.cons _ ?_)) (yld_field_z rfl F.fi88_3 F.ti3) rfl ?_
  refine any_take (listed' := [true, true, false, true, true, false, false, true, true, false, false].toArray) 8 rfl rfl rfl (by kernel_rfl) (by kernel_rfl) (by kernel_rfl) (by repeat (first | exact List.Sublist.refl _ | exact List.nil_sublist _ | refine List.Sublist.cons_cons _ ?_ | refine List.Sublist.cons _ ?_)) (yld_load rfl F.one3) rfl ?_
  refine any_one (listed' := [true, true, true, true, true, false, false, true, true, false, false].toArray) 2 (by kernel_rfl) rfl rfl ?_
  refine lst_fn0 (v := .int .i64 (m : Int)) (vs := [_]) rfl rfl F.ent48 (fun a' w ha => (lsum_c m 0 0 (by omega) (by omega) (by omega) w).mono (fun e w' h => ⟨by rw [h.1, show sumN [m, 0, 0] = m by simp [sumN]], h.2⟩)) ?_
  refine lst_nil ?_
  refine any_next (by repeat (first | exact List.Sublist.refl _ | exact List.nil_sublist _ | refine List.Sublist.cons_cons _ ?_ | refine List.Sublist.cons _ ?_)) ?_
  refine any_one (listed' := [true, true, true, true, true, true, false, true, true, false, false].toArray) 5 (by kernel_rfl) rfl rfl ?_
  refine lst_fn0 (v := .int .i64 ((0 : Nat) : Int)) (vs := [_]) rfl rfl F.ent48 (fun a' w ha => (lsum_c 0 0 0 (by omega) (by omega) (by omega) w).mono (fun e w' h => ⟨by rw [h.1, show sumN [0, 0, 0] = 0 by simp [sumN]], h.2⟩)) ?_
  refine lst_nil ?_
  refine any_next (by repeat (first | exact List.Sublist.refl _ | exact List.nil_sublist _ | refine List.Sublist.cons_cons _ ?_ | refine List.Sublist.cons _ ?_)) ?_
  refine any_one (listed' := [true, true, true, true, true, true, true, true, true, false, false].toArray) 6 (by kernel_rfl) rfl rfl ?_
  refine lst_int (v := .int .i64 (m : Int)) rfl rfl rfl (fun w => bin_sub w (by rw [wrap_i64' _ (by omega) (by omega)] <;> omega)) ?_
  refine lst_nil ?_
  refine any_next (by repeat (first | exact List.Sublist.refl _ | exact List.nil_sublist _ | refine List.Sublist.cons_cons _ ?_ | refine List.Sublist.cons _ ?_)) ?_
  refine any_one (listed' := [true, true, true, true, true, true, true, true, true, true, false].toArray) 9 (by kernel_rfl) rfl rfl ?_
  refine lst_int (v := .int .i64 ((m : Int) - (p : Int))) rfl rfl rfl (fun w => bin_sub w (wrap_i64' _ (by omega) (by omega))) ?_
  refine lst_nil ?_
  refine any_next (by repeat (first | exact List.Sublist.refl _ | exact List.nil_sublist _ | refine List.Sublist.cons_cons _ ?_ | refine List.Sublist.cons _ ?_)) ?_
  refine any_take (listed' := [true, true, true, true, true, true, true, true, true, true, true].toArray) 10 rfl rfl rfl (by kernel_rfl) (by kernel_rfl) (by kernel_rfl) (by repeat (first | exact List.Sublist.refl _ | exact List.nil_sublist _ | refine List.Sublist.cons_cons _ ?_ | refine List.Sublist.cons _ ?_)) (yld_assign rfl) rfl ?_
  refine any_done rfl (by kernel_rfl) ?_
  refine ex_then ?_
  refine cod_ret ?_
  exact ex_ret rfl (fun a w ha => res_one rfl rfl ha) (fun a w ha => ⟨rfl, ha.grown (List.nil_sublist _)⟩)

theorem splan_c (l : List Nat) (lA : Option Addr) (lc Lb Sb Wb st p : Nat) (k : Nat) (hk : k ≤ 4) (hks : k * sumN l ≤ 144) (w : World) (hM : SawM w l lA lc Lb Sb Wb st p) : Calls Tryd.prog 45 #[.agg [.slice (some ⟨Lb, 0, none⟩) 1 1, .slice (some ⟨Sb, 0, none⟩) 1 1, .int .i64 1, .slice (some ⟨Wb, 0, none⟩) 1 1].toArray, .int .u8 1, .agg [.int .i64 (k : Int), .int .i64 0, .int .i64 0].toArray] w fun e w' => e = .returned (.agg [.int .i64 (k : Int), .int .i64 0, .int .i64 0, .int .i64 (k * sumN l : Int), .int .i64 0, .int .i64 0, .int .i64 0, .int .i64 0, .int .i64 0, .int .i64 (p : Int)].toArray) ∧ Grew w w' [] := by
  refine enter (N := 63) [(0, .agg [.slice (some ⟨Lb, 0, none⟩) 1 1, .slice (some ⟨Sb, 0, none⟩) 1 1, .int .i64 1, .slice (some ⟨Wb, 0, none⟩) 1 1].toArray), (1, .int .u8 1), (2, .agg [.int .i64 (k : Int), .int .i64 0, .int .i64 0].toArray)] Tryd.func45 rfl Tryd.ntmps45 rfl rfl ?_
  refine cod_seq ?_
  refine cod_region ?_
  refine lst_box rfl rfl ?_
  intro b3
  refine lst_box rfl rfl ?_
  intro b5
  refine lst_alloc rfl F.ti88 ?_
  intro b6
  refine lst_nil ?_
  refine ex_then ?_
  refine cod_seq ?_
  refine cod_region ?_
  refine lst_alloc rfl F.ti88 ?_
  intro b7
  refine lst_nil ?_
  refine ex_then ?_
  refine cod_seq ?_
  refine cod_seq ?_
  refine cod_region ?_
  refine lst_move rfl rfl ?_
  refine lst_fn (X := Option Addr × Nat) (vs := [_]) (p := fun _ => True) (val := fun y => .slice y.1 1 y.2) (rs := fun y => [.row 3 1 y.1 1 y.2 [.int .i64 0]]) rfl rfl F.ent27 (fun a w ha => (listw_c w).mono (fun e w' h => by obtain ⟨A, c, h1, h2⟩ := h; exact ⟨(A, c), trivial, h1, h2⟩)) ?_
  rintro ⟨A, c⟩ -
  dsimp only [List.cons_append, List.nil_append]
  refine lst_len rfl rfl Tryd.underlying22 ?_
  refine lst_move rfl rfl ?_
  refine lst_nil ?_
  refine ex_then ?_
  refine cod_block ?_
  refine cod_rounds 1 ?_
  refine cod_know (fun a w ha => row_some (ha.own _ (InR.mem (A := A))) (by decide)) ?_
  rintro ⟨g, rfl⟩
  refine cod_seq ?_
  refine cod_region ?_
  refine lst_int rfl rfl rfl bin_lss ?_
  refine lst_nil ?_
  refine ex_then ?_
  refine cod_seq ?_
  refine cod_cond_true rfl ?_
  refine cod_skip ?_
  refine ex_then ?_
  refine cod_seq ?_
  refine cod_block ?_
  refine cod_seq ?_
  refine cod_region ?_
  refine lst_index (j := 0) rfl rfl rfl Tryd.underlying22 F.ti3 rfl (by decide) ?_
  refine lst_load_row (v := .int .i64 0) rfl rfl F.one3 rfl rfl ?_
  refine lst_assign rfl rfl ?_
  refine lst_nil ?_
  refine ex_then ?_
  refine any_begin [.b b7] F.follows 9 rfl [false, false, false, false, false, false, false, false, false] rfl ?_
  refine any_take (listed' := [true, false, false, false, false, false, false, false, false].toArray) 0 rfl rfl rfl (by kernel_rfl) (by kernel_rfl) (by kernel_rfl) (by repeat (first | exact List.Sublist.refl _ | exact List.nil_sublist _ | refine List.Sublist.cons_cons _ ?_ | refine List.Sublist.cons _ ?_)) (yld_loadN rfl F.agg78 F.ti78) rfl ?_
  refine any_take (listed' := [true, true, false, false, false, false, false, false, false].toArray) 1 rfl rfl rfl (by kernel_rfl) (by kernel_rfl) (by kernel_rfl) (by repeat (first | exact List.Sublist.refl _ | exact List.nil_sublist _ | refine List.Sublist.cons_cons _ ?_ | refine List.Sublist.cons _ ?_)) (yld_field_z rfl F.fi78_0 F.ti40) rfl ?_
  refine any_take (listed' := [true, true, true, false, false, false, false, false, false].toArray) 2 rfl rfl rfl (by kernel_rfl) (by kernel_rfl) (by kernel_rfl) (by repeat (first | exact List.Sublist.refl _ | exact List.nil_sublist _ | refine List.Sublist.cons_cons _ ?_ | refine List.Sublist.cons _ ?_)) (yld_field_z rfl F.fi40_3 F.ti38) rfl ?_
  refine any_take (listed' := [true, true, true, true, false, false, false, false, false].toArray) 3 rfl rfl rfl (by kernel_rfl) (by kernel_rfl) (by kernel_rfl) (by repeat (first | exact List.Sublist.refl _ | exact List.nil_sublist _ | refine List.Sublist.cons_cons _ ?_ | refine List.Sublist.cons _ ?_)) (yld_load rfl F.one38) rfl ?_
  refine any_take (listed' := [true, true, true, true, true, false, false, false, false].toArray) 4 rfl rfl rfl (by kernel_rfl) (by kernel_rfl) (by kernel_rfl) (by repeat (first | exact List.Sublist.refl _ | exact List.nil_sublist _ | refine List.Sublist.cons_cons _ ?_ | refine List.Sublist.cons _ ?_)) (yld_move rfl) rfl ?_
  refine any_take (listed' := [true, true, true, true, true, true, false, false, false].toArray) 5 rfl rfl rfl (by kernel_rfl) (by kernel_rfl) (by kernel_rfl) (by repeat (first | exact List.Sublist.refl _ | exact List.nil_sublist _ | refine List.Sublist.cons_cons _ ?_ | refine List.Sublist.cons _ ?_)) (yld_index (j := 0) rfl rfl Tryd.underlying38 F.ti75 rfl (by decide)) rfl ?_
  refine any_take (listed' := [true, true, true, true, true, true, true, false, false].toArray) 6 rfl rfl rfl (by kernel_rfl) (by kernel_rfl) (by kernel_rfl) (by repeat (first | exact List.Sublist.refl _ | exact List.nil_sublist _ | refine List.Sublist.cons_cons _ ?_ | refine List.Sublist.cons _ ?_)) (yld_loadN_at (l := [.int .i64 1, .int .i64 (-1), .int .i64 (p : Int), .int .i64 0]) rfl F.agg75 F.ti75 rfl (fun a w ha j u hj => ha.old (hM.W j u hj) (cell_lt (hM.W j u hj)))) rfl ?_
  refine any_one (listed' := [true, true, true, true, true, true, true, true, false].toArray) 7 (by kernel_rfl) rfl rfl ?_
  refine lst_fn0 (vs := [_, _]) rfl rfl F.ent61 (fun a w ha => sorder_c Lb Sb Wb p w) ?_
  refine lst_nil ?_
  refine any_next (by repeat (first | exact List.Sublist.refl _ | exact List.nil_sublist _ | refine List.Sublist.cons_cons _ ?_ | refine List.Sublist.cons _ ?_)) ?_
  refine any_one (listed' := [true, true, true, true, true, true, true, true, true].toArray) 8 (by kernel_rfl) rfl rfl ?_
  refine lst_method_pul (X := Value) (vs := [_]) b7 (fun _ => .cells [.int .i64 0, .int .i64 0, .int .i64 0, .int .i64 0, .int .i64 0, .int .i64 0, .int .i64 0, .int .i64 0, .int .i64 0, .int .i64 (p : Int)].toArray 88 (0, 0)) (fun _ => True) (fun v => v) rfl rfl rfl (fun w => Saw.serve _ w) F.ent102 (fun a w ha => (serve_c (C := ⟨Tryd.prog, _, _, _, _⟩) rfl hM.p60 ha).mono (fun e w' h => by obtain ⟨⟨v, h1⟩, h2⟩ := h; exact ⟨v, trivial, h1, h2⟩)) ?_
  rintro v27 -
  refine lst_nil ?_
  refine any_next (by repeat (first | exact List.Sublist.refl _ | exact List.nil_sublist _ | refine List.Sublist.cons_cons _ ?_ | refine List.Sublist.cons _ ?_)) ?_
  refine any_done rfl (by kernel_rfl) ?_
  refine ex_block_normal ?_
  refine ex_then ?_
  refine cod_region ?_
  refine lst_int (v := .int .i64 1) rfl rfl rfl (fun w => bin_add w (by decide)) ?_
  refine lst_move rfl rfl ?_
  refine lst_nil ?_
  refine ex_rounds ?_
  refine cod_seq ?_
  refine cod_region ?_
  refine lst_int rfl rfl rfl bin_lss ?_
  refine lst_nil ?_
  refine ex_then ?_
  refine cod_seq ?_
  refine cod_cond_false rfl ?_
  refine cod_exit ?_
  refine ex_then_exit ?_
  refine ex_then_exit ?_
  refine ex_block_exit ?_
  refine ex_then ?_
  refine cod_seq ?_
  refine cod_seq ?_
  refine cod_region ?_
  refine lst_field_z rfl rfl F.fi78_0 F.ti40 ?_
  refine lst_field_z rfl rfl F.fi40_0 F.ti37 ?_
  refine lst_load rfl rfl F.one37 ?_
  refine lst_len rfl rfl Tryd.underlying37 ?_
  refine lst_move rfl rfl ?_
  refine lst_nil ?_
  refine ex_then ?_
  refine cod_block ?_
  refine cod_rounds 1 ?_
  refine cod_seq ?_
  refine cod_region ?_
  refine lst_int rfl rfl rfl bin_lss ?_
  refine lst_nil ?_
  refine ex_then ?_
  refine cod_seq ?_
  refine cod_cond_true rfl ?_
  refine cod_skip ?_
  refine ex_then ?_
  refine cod_seq ?_
  refine cod_block ?_
  refine cod_seq ?_
  refine cod_region ?_
  refine lst_move rfl rfl ?_
  refine lst_index (j := 0) rfl rfl rfl Tryd.underlying37 F.ti22 rfl (by decide) ?_
  refine lst_load_at (v := .slice lA l.length lc) rfl rfl F.one22 (fun a w ha => ha.old hM.L (cell_lt hM.L)) ?_
  refine lst_assign rfl rfl ?_
  refine lst_assign rfl rfl ?_
  refine lst_nil ?_
  refine ex_then ?_
  refine cod_seq ?_
  refine any_begin [.b b7] F.follows 11 rfl [false, false, false, false, false, false, false, false, false, false, false] rfl ?_
  refine any_take (listed' := [true, false, false, false, false, false, false, false, false, false, false].toArray) 0 rfl rfl rfl (by kernel_rfl) (by kernel_rfl) (by kernel_rfl) (by repeat (first | exact List.Sublist.refl _ | exact List.nil_sublist _ | refine List.Sublist.cons_cons _ ?_ | refine List.Sublist.cons _ ?_)) (yld_move rfl) rfl ?_
  refine any_take (listed' := [true, true, false, false, false, false, false, false, false, false, false].toArray) 1 rfl rfl rfl (by kernel_rfl) (by kernel_rfl) (by kernel_rfl) (by repeat (first | exact List.Sublist.refl _ | exact List.nil_sublist _ | refine List.Sublist.cons_cons _ ?_ | refine List.Sublist.cons _ ?_)) (yld_field_z rfl F.fi88_0 F.ti86) rfl ?_
  refine any_take (listed' := [true, true, true, false, false, false, false, false, false, false, false].toArray) 2 rfl rfl rfl (by kernel_rfl) (by kernel_rfl) (by kernel_rfl) (by repeat (first | exact List.Sublist.refl _ | exact List.nil_sublist _ | refine List.Sublist.cons_cons _ ?_ | refine List.Sublist.cons _ ?_)) (yld_index_lit (j := 0) (off := 0) rfl rfl Tryd.underlying86 F.ti3 rfl rfl) rfl ?_
  refine any_take (listed' := [true, true, true, false, true, false, false, false, false, false, false].toArray) 4 rfl rfl rfl (by kernel_rfl) (by kernel_rfl) (by kernel_rfl) (by repeat (first | exact List.Sublist.refl _ | exact List.nil_sublist _ | refine List.Sublist.cons_cons _ ?_ | refine List.Sublist.cons _ ?_)) (yld_move rfl) rfl ?_
  refine any_take (listed' := [true, true, true, false, true, true, false, false, false, false, false].toArray) 5 rfl rfl rfl (by kernel_rfl) (by kernel_rfl) (by kernel_rfl) (by repeat (first | exact List.Sublist.refl _ | exact List.nil_sublist _ | refine List.Sublist.cons_cons _ ?_ | refine List.Sublist.cons _ ?_)) (yld_index_lit (j := 0) (off := 0) rfl rfl Tryd.underlying86 F.ti3 rfl rfl) rfl ?_
  refine any_take (listed' := [true, true, true, false, true, true, true, false, false, false, false].toArray) 6 rfl rfl rfl (by kernel_rfl) (by kernel_rfl) (by kernel_rfl) (by repeat (first | exact List.Sublist.refl _ | exact List.nil_sublist _ | refine List.Sublist.cons_cons _ ?_ | refine List.Sublist.cons _ ?_)) (yld_load rfl F.one3) rfl ?_
  refine any_take (listed' := [true, true, true, false, true, true, true, false, true, false, false].toArray) 8 rfl rfl rfl (by kernel_rfl) (by kernel_rfl) (by kernel_rfl) (by repeat (first | exact List.Sublist.refl _ | exact List.nil_sublist _ | refine List.Sublist.cons_cons _ ?_ | refine List.Sublist.cons _ ?_)) (yld_field_z rfl F.fi88_0 F.ti86) rfl ?_
  refine any_one (listed' := [true, true, true, true, true, true, true, false, true, false, false].toArray) 3 (by kernel_rfl) rfl rfl ?_
  refine lst_load rfl rfl F.one3 ?_
  refine lst_nil ?_
  refine any_next (by repeat (first | exact List.Sublist.refl _ | exact List.nil_sublist _ | refine List.Sublist.cons_cons _ ?_ | refine List.Sublist.cons _ ?_)) ?_
  refine any_one (listed' := [true, true, true, true, true, true, true, true, true, false, false].toArray) 7 (by kernel_rfl) rfl rfl ?_
  refine lst_int (v := .int .i64 (k : Int)) rfl rfl rfl (fun w => bin_add w (by rw [wrap_i64' _ (by omega) (by omega)] <;> omega)) ?_
  refine lst_nil ?_
  refine any_next (by repeat (first | exact List.Sublist.refl _ | exact List.nil_sublist _ | refine List.Sublist.cons_cons _ ?_ | refine List.Sublist.cons _ ?_)) ?_
  refine any_take (listed' := [true, true, true, true, true, true, true, true, true, true, false].toArray) 9 rfl rfl rfl (by kernel_rfl) (by kernel_rfl) (by kernel_rfl) (by repeat (first | exact List.Sublist.refl _ | exact List.nil_sublist _ | refine List.Sublist.cons_cons _ ?_ | refine List.Sublist.cons _ ?_)) (yld_index_lit (j := 0) (off := 0) rfl rfl Tryd.underlying86 F.ti3 rfl rfl) rfl ?_
  refine any_one (listed' := [true, true, true, true, true, true, true, true, true, true, true].toArray) 10 (by kernel_rfl) rfl rfl ?_
  refine lst_store rfl rfl F.ti3 rfl ?_
  refine lst_nil ?_
  refine any_next (by repeat (first | exact List.Sublist.refl _ | exact List.nil_sublist _ | refine List.Sublist.cons_cons _ ?_ | refine List.Sublist.cons _ ?_)) ?_
  refine any_done rfl (by kernel_rfl) ?_
  refine ex_then ?_
  refine any_begin [.b b7] F.follows 14 rfl [false, false, false, false, false, false, false, false, false, false, false, false, false, false] rfl ?_
  refine any_take (listed' := [true, false, false, false, false, false, false, false, false, false, false, false, false, false].toArray) 0 rfl rfl rfl (by kernel_rfl) (by kernel_rfl) (by kernel_rfl) (by repeat (first | exact List.Sublist.refl _ | exact List.nil_sublist _ | refine List.Sublist.cons_cons _ ?_ | refine List.Sublist.cons _ ?_)) (yld_move rfl) rfl ?_
  refine any_take (listed' := [true, true, false, false, false, false, false, false, false, false, false, false, false, false].toArray) 1 rfl rfl rfl (by kernel_rfl) (by kernel_rfl) (by kernel_rfl) (by repeat (first | exact List.Sublist.refl _ | exact List.nil_sublist _ | refine List.Sublist.cons_cons _ ?_ | refine List.Sublist.cons _ ?_)) (yld_field_z rfl F.fi88_1 F.ti86) rfl ?_
  refine any_take (listed' := [true, true, true, false, false, false, false, false, false, false, false, false, false, false].toArray) 2 rfl rfl rfl (by kernel_rfl) (by kernel_rfl) (by kernel_rfl) (by repeat (first | exact List.Sublist.refl _ | exact List.nil_sublist _ | refine List.Sublist.cons_cons _ ?_ | refine List.Sublist.cons _ ?_)) (yld_index_lit (j := 0) (off := 3) rfl rfl Tryd.underlying86 F.ti3 rfl rfl) rfl ?_
  refine any_take (listed' := [true, true, true, false, true, false, false, false, false, false, false, false, false, false].toArray) 4 rfl rfl rfl (by kernel_rfl) (by kernel_rfl) (by kernel_rfl) (by repeat (first | exact List.Sublist.refl _ | exact List.nil_sublist _ | refine List.Sublist.cons_cons _ ?_ | refine List.Sublist.cons _ ?_)) (yld_move rfl) rfl ?_
  refine any_take (listed' := [true, true, true, false, true, true, false, false, false, false, false, false, false, false].toArray) 5 rfl rfl rfl (by kernel_rfl) (by kernel_rfl) (by kernel_rfl) (by repeat (first | exact List.Sublist.refl _ | exact List.nil_sublist _ | refine List.Sublist.cons_cons _ ?_ | refine List.Sublist.cons _ ?_)) (yld_index_lit (j := 0) (off := 0) rfl rfl Tryd.underlying86 F.ti3 rfl rfl) rfl ?_
  refine any_take (listed' := [true, true, true, false, true, true, true, false, false, false, false, false, false, false].toArray) 6 rfl rfl rfl (by kernel_rfl) (by kernel_rfl) (by kernel_rfl) (by repeat (first | exact List.Sublist.refl _ | exact List.nil_sublist _ | refine List.Sublist.cons_cons _ ?_ | refine List.Sublist.cons _ ?_)) (yld_load rfl F.one3) rfl ?_
  refine any_take (listed' := [true, true, true, false, true, true, true, true, false, false, false, false, false, false].toArray) 7 rfl rfl rfl (by kernel_rfl) (by kernel_rfl) (by kernel_rfl) (by repeat (first | exact List.Sublist.refl _ | exact List.nil_sublist _ | refine List.Sublist.cons_cons _ ?_ | refine List.Sublist.cons _ ?_)) (yld_move rfl) rfl ?_
  refine any_take (listed' := [true, true, true, false, true, true, true, true, false, false, false, true, false, false].toArray) 11 rfl rfl rfl (by kernel_rfl) (by kernel_rfl) (by kernel_rfl) (by repeat (first | exact List.Sublist.refl _ | exact List.nil_sublist _ | refine List.Sublist.cons_cons _ ?_ | refine List.Sublist.cons _ ?_)) (yld_field_z rfl F.fi88_1 F.ti86) rfl ?_
  refine any_two (l1 := [true, true, true, true, true, true, true, true, false, false, false, true, false, false].toArray) (l2 := [true, true, true, false, true, true, true, true, true, false, false, true, false, false].toArray) 3 8 (by kernel_rfl) rfl rfl rfl rfl ?_ ?_
  · skip
    refine lst_load rfl rfl F.one3 ?_
    refine lst_nil ?_
    refine any_next (by repeat (first | exact List.Sublist.refl _ | exact List.nil_sublist _ | refine List.Sublist.cons_cons _ ?_ | refine List.Sublist.cons _ ?_)) ?_
    refine any_one (listed' := [true, true, true, true, true, true, true, true, true, false, false, true, false, false].toArray) 8 (by kernel_rfl) rfl rfl ?_
    refine lst_fn0 (vs := [_]) rfl rfl F.ent62 (fun a w ha => sum_c lA lc l (by have := hM.sum36; omega) (by have := hM.len4; omega) w (hM.later ha.below).rl) ?_
    refine lst_nil ?_
    refine any_next (by repeat (first | exact List.Sublist.refl _ | exact List.nil_sublist _ | refine List.Sublist.cons_cons _ ?_ | refine List.Sublist.cons _ ?_)) ?_
    refine any_one (listed' := [true, true, true, true, true, true, true, true, true, true, false, true, false, false].toArray) 9 (by kernel_rfl) rfl rfl ?_
    refine lst_int (v := .int .i64 (k * sumN l : Int)) rfl rfl rfl (fun w => bin_mul w (by rw [wrap_i64' _ (by have := hks; omega) (by have := hks; omega)] <;> simp)) ?_
    refine lst_nil ?_
    refine any_next (by repeat (first | exact List.Sublist.refl _ | exact List.nil_sublist _ | refine List.Sublist.cons_cons _ ?_ | refine List.Sublist.cons _ ?_)) ?_
    refine any_one (listed' := [true, true, true, true, true, true, true, true, true, true, true, true, false, false].toArray) 10 (by kernel_rfl) rfl rfl ?_
    refine lst_int (v := .int .i64 (k * sumN l : Int)) rfl rfl rfl (fun w => bin_add w (by rw [wrap_i64' _ (by omega) (by omega)] <;> omega)) ?_
    refine lst_nil ?_
    refine any_next (by repeat (first | exact List.Sublist.refl _ | exact List.nil_sublist _ | refine List.Sublist.cons_cons _ ?_ | refine List.Sublist.cons _ ?_)) ?_
    refine any_take (listed' := [true, true, true, true, true, true, true, true, true, true, true, true, true, false].toArray) 12 rfl rfl rfl (by kernel_rfl) (by kernel_rfl) (by kernel_rfl) (by repeat (first | exact List.Sublist.refl _ | exact List.nil_sublist _ | refine List.Sublist.cons_cons _ ?_ | refine List.Sublist.cons _ ?_)) (yld_index_lit (j := 0) (off := 3) rfl rfl Tryd.underlying86 F.ti3 rfl rfl) rfl ?_
    refine any_one (listed' := [true, true, true, true, true, true, true, true, true, true, true, true, true, true].toArray) 13 (by kernel_rfl) rfl rfl ?_
    refine lst_store rfl rfl F.ti3 rfl ?_
    refine lst_nil ?_
    refine any_next (by repeat (first | exact List.Sublist.refl _ | exact List.nil_sublist _ | refine List.Sublist.cons_cons _ ?_ | refine List.Sublist.cons _ ?_)) ?_
    refine any_done rfl (by kernel_rfl) ?_
    refine ex_block_normal ?_
    refine ex_then ?_
    refine cod_region ?_
    refine lst_int (v := .int .i64 1) rfl rfl rfl (fun w => bin_add w (by decide)) ?_
    refine lst_move rfl rfl ?_
    refine lst_nil ?_
    refine ex_rounds ?_
    refine cod_seq ?_
    refine cod_region ?_
    refine lst_int rfl rfl rfl bin_lss ?_
    refine lst_nil ?_
    refine ex_then ?_
    refine cod_seq ?_
    refine cod_cond_false rfl ?_
    refine cod_exit ?_
    refine ex_then_exit ?_
    refine ex_then_exit ?_
    refine ex_block_exit ?_
    refine ex_then ?_
    refine cod_seq ?_
    refine cod_region ?_
    refine lst_loadN rfl rfl F.agg88 F.ti88 ?_
    refine lst_store rfl rfl F.ti88 rfl ?_
    refine lst_nil ?_
    refine ex_then ?_
    refine cod_ret ?_
    exact ex_ret rfl (fun a w ha => res_cellN rfl rfl F.agg88 F.ti88 rfl ha) (fun a w ha => ⟨rfl, ha.grown (by repeat (first | exact List.Sublist.refl _ | exact List.nil_sublist _ | refine List.Sublist.cons_cons _ ?_ | refine List.Sublist.cons _ ?_))⟩)
  · skip
    refine lst_fn0 (vs := [_]) rfl rfl F.ent62 (fun a w ha => sum_c lA lc l (by have := hM.sum36; omega) (by have := hM.len4; omega) w (hM.later ha.below).rl) ?_
    refine lst_nil ?_
    refine any_next (by repeat (first | exact List.Sublist.refl _ | exact List.nil_sublist _ | refine List.Sublist.cons_cons _ ?_ | refine List.Sublist.cons _ ?_)) ?_
    refine any_two (l1 := [true, true, true, true, true, true, true, true, true, false, false, true, false, false].toArray) (l2 := [true, true, true, false, true, true, true, true, true, true, false, true, false, false].toArray) 3 9 (by kernel_rfl) rfl rfl rfl rfl ?_ ?_
    · skip
      refine lst_load rfl rfl F.one3 ?_
      refine lst_nil ?_
      refine any_next (by repeat (first | exact List.Sublist.refl _ | exact List.nil_sublist _ | refine List.Sublist.cons_cons _ ?_ | refine List.Sublist.cons _ ?_)) ?_
      refine any_one (listed' := [true, true, true, true, true, true, true, true, true, true, false, true, false, false].toArray) 9 (by kernel_rfl) rfl rfl ?_
      refine lst_int (v := .int .i64 (k * sumN l : Int)) rfl rfl rfl (fun w => bin_mul w (by rw [wrap_i64' _ (by have := hks; omega) (by have := hks; omega)] <;> simp)) ?_
      refine lst_nil ?_
      refine any_next (by repeat (first | exact List.Sublist.refl _ | exact List.nil_sublist _ | refine List.Sublist.cons_cons _ ?_ | refine List.Sublist.cons _ ?_)) ?_
      refine any_one (listed' := [true, true, true, true, true, true, true, true, true, true, true, true, false, false].toArray) 10 (by kernel_rfl) rfl rfl ?_
      refine lst_int (v := .int .i64 (k * sumN l : Int)) rfl rfl rfl (fun w => bin_add w (by rw [wrap_i64' _ (by omega) (by omega)] <;> omega)) ?_
      refine lst_nil ?_
      refine any_next (by repeat (first | exact List.Sublist.refl _ | exact List.nil_sublist _ | refine List.Sublist.cons_cons _ ?_ | refine List.Sublist.cons _ ?_)) ?_
      refine any_take (listed' := [true, true, true, true, true, true, true, true, true, true, true, true, true, false].toArray) 12 rfl rfl rfl (by kernel_rfl) (by kernel_rfl) (by kernel_rfl) (by repeat (first | exact List.Sublist.refl _ | exact List.nil_sublist _ | refine List.Sublist.cons_cons _ ?_ | refine List.Sublist.cons _ ?_)) (yld_index_lit (j := 0) (off := 3) rfl rfl Tryd.underlying86 F.ti3 rfl rfl) rfl ?_
      refine any_one (listed' := [true, true, true, true, true, true, true, true, true, true, true, true, true, true].toArray) 13 (by kernel_rfl) rfl rfl ?_
      refine lst_store rfl rfl F.ti3 rfl ?_
      refine lst_nil ?_
      refine any_next (by repeat (first | exact List.Sublist.refl _ | exact List.nil_sublist _ | refine List.Sublist.cons_cons _ ?_ | refine List.Sublist.cons _ ?_)) ?_
      refine any_done rfl (by kernel_rfl) ?_
      refine ex_block_normal ?_
      refine ex_then ?_
      refine cod_region ?_
      refine lst_int (v := .int .i64 1) rfl rfl rfl (fun w => bin_add w (by decide)) ?_
      refine lst_move rfl rfl ?_
      refine lst_nil ?_
      refine ex_rounds ?_
      refine cod_seq ?_
      refine cod_region ?_
      refine lst_int rfl rfl rfl bin_lss ?_
      refine lst_nil ?_
      refine ex_then ?_
      refine cod_seq ?_
      refine cod_cond_false rfl ?_
      refine cod_exit ?_
      refine ex_then_exit ?_
      refine ex_then_exit ?_
      refine ex_block_exit ?_
      refine ex_then ?_
      refine cod_seq ?_
      refine cod_region ?_
      refine lst_loadN rfl rfl F.agg88 F.ti88 ?_
      refine lst_store rfl rfl F.ti88 rfl ?_
      refine lst_nil ?_
      refine ex_then ?_
      refine cod_ret ?_
      exact ex_ret rfl (fun a w ha => res_cellN rfl rfl F.agg88 F.ti88 rfl ha) (fun a w ha => ⟨rfl, ha.grown (by repeat (first | exact List.Sublist.refl _ | exact List.nil_sublist _ | refine List.Sublist.cons_cons _ ?_ | refine List.Sublist.cons _ ?_))⟩)
    · skip
      refine lst_int (v := .int .i64 (k * sumN l : Int)) rfl rfl rfl (fun w => bin_mul w (by rw [wrap_i64' _ (by have := hks; omega) (by have := hks; omega)] <;> simp)) ?_
      refine lst_nil ?_
      refine any_next (by repeat (first | exact List.Sublist.refl _ | exact List.nil_sublist _ | refine List.Sublist.cons_cons _ ?_ | refine List.Sublist.cons _ ?_)) ?_
      refine any_one (listed' := [true, true, true, true, true, true, true, true, true, true, false, true, false, false].toArray) 3 (by kernel_rfl) rfl rfl ?_
      refine lst_load rfl rfl F.one3 ?_
      refine lst_nil ?_
      refine any_next (by repeat (first | exact List.Sublist.refl _ | exact List.nil_sublist _ | refine List.Sublist.cons_cons _ ?_ | refine List.Sublist.cons _ ?_)) ?_
      refine any_one (listed' := [true, true, true, true, true, true, true, true, true, true, true, true, false, false].toArray) 10 (by kernel_rfl) rfl rfl ?_
      refine lst_int (v := .int .i64 (k * sumN l : Int)) rfl rfl rfl (fun w => bin_add w (by rw [wrap_i64' _ (by omega) (by omega)] <;> omega)) ?_
      refine lst_nil ?_
      refine any_next (by repeat (first | exact List.Sublist.refl _ | exact List.nil_sublist _ | refine List.Sublist.cons_cons _ ?_ | refine List.Sublist.cons _ ?_)) ?_
      refine any_take (listed' := [true, true, true, true, true, true, true, true, true, true, true, true, true, false].toArray) 12 rfl rfl rfl (by kernel_rfl) (by kernel_rfl) (by kernel_rfl) (by repeat (first | exact List.Sublist.refl _ | exact List.nil_sublist _ | refine List.Sublist.cons_cons _ ?_ | refine List.Sublist.cons _ ?_)) (yld_index_lit (j := 0) (off := 3) rfl rfl Tryd.underlying86 F.ti3 rfl rfl) rfl ?_
      refine any_one (listed' := [true, true, true, true, true, true, true, true, true, true, true, true, true, true].toArray) 13 (by kernel_rfl) rfl rfl ?_
      refine lst_store rfl rfl F.ti3 rfl ?_
      refine lst_nil ?_
      refine any_next (by repeat (first | exact List.Sublist.refl _ | exact List.nil_sublist _ | refine List.Sublist.cons_cons _ ?_ | refine List.Sublist.cons _ ?_)) ?_
      refine any_done rfl (by kernel_rfl) ?_
      refine ex_block_normal ?_
      refine ex_then ?_
      refine cod_region ?_
      refine lst_int (v := .int .i64 1) rfl rfl rfl (fun w => bin_add w (by decide)) ?_
      refine lst_move rfl rfl ?_
      refine lst_nil ?_
      refine ex_rounds ?_
      refine cod_seq ?_
      refine cod_region ?_
      refine lst_int rfl rfl rfl bin_lss ?_
      refine lst_nil ?_
      refine ex_then ?_
      refine cod_seq ?_
      refine cod_cond_false rfl ?_
      refine cod_exit ?_
      refine ex_then_exit ?_
      refine ex_then_exit ?_
      refine ex_block_exit ?_
      refine ex_then ?_
      refine cod_seq ?_
      refine cod_region ?_
      refine lst_loadN rfl rfl F.agg88 F.ti88 ?_
      refine lst_store rfl rfl F.ti88 rfl ?_
      refine lst_nil ?_
      refine ex_then ?_
      refine cod_ret ?_
      exact ex_ret rfl (fun a w ha => res_cellN rfl rfl F.agg88 F.ti88 rfl ha) (fun a w ha => ⟨rfl, ha.grown (by repeat (first | exact List.Sublist.refl _ | exact List.nil_sublist _ | refine List.Sublist.cons_cons _ ?_ | refine List.Sublist.cons _ ?_))⟩)

end Go.Proofs.YthkbagikmbcphaaDoor.N
namespace Go.Proofs.YthkbagikmbcphaaDoor.N
open Go Go.RowKit Go.Proofs
theorem F.agg111 : aggB Tryd.prog 111 = true := by unfold aggB; rw [Tryd.underlying111]
theorem F.ent29 : Enters Tryd.prog 29 := enters_of Tryd.func29 rfl (by kernel_rfl)
theorem F.ent60 : Enters Tryd.prog 60 := enters_of Tryd.func60 rfl (by kernel_rfl)
theorem F.fi136_1 : FI Tryd.prog 136 1 111 1 := ⟨_, _, Tryd.underlying136, rfl, rfl, rfl⟩
theorem F.fi136_2 : FI Tryd.prog 136 2 4 8 := ⟨_, _, Tryd.underlying136, rfl, rfl, rfl⟩
theorem F.one4 : One Tryd.prog 4 := ⟨by unfold aggB; rw [Tryd.underlying4], by rw [Tryd.underlying4]; simp⟩
theorem F.pl148 : Places Tryd.prog 148 [(0, 1)] := .inl ⟨_, Tryd.underlying148, by kernel_rfl⟩
theorem F.ti111 : TI Tryd.prog 111 (.agg [.int .u8 0, .int .i64 0, .int .i64 0, .int .i64 0, .int .i64 0, .int .i64 0, .bool false].toArray) 7 56 := TI.of (by kernel_rfl)
theorem F.ti148 : TI Tryd.prog 148 (.agg [.int .i64 0].toArray) 1 8 := TI.of (by kernel_rfl)
theorem F.ti4 : TI Tryd.prog 4 (.bool false) 1 1 := TI.of (by kernel_rfl)
theorem sright_c (l : List Nat) (lA : Option Addr) (lc Lb Sb Wb st p : Nat) (k m : Nat) (hk : k ≤ st) (hm : m ≤ 1000) (w : World) (hM : SawM w l lA lc Lb Sb Wb st p) : Calls Tryd.prog 47 #[.agg [.slice (some ⟨Lb, 0, none⟩) 1 1, .slice (some ⟨Sb, 0, none⟩) 1 1, .int .i64 1, .slice (some ⟨Wb, 0, none⟩) 1 1].toArray, .agg [.int .i64 (k : Int), .int .i64 0, .int .i64 0, .int .i64 (m : Int), .int .i64 0, .int .i64 0, .int .i64 0, .int .i64 0, .int .i64 0, .int .i64 (p : Int)].toArray] w fun e w' => e = .returned (if m < p then .iface 148 (.agg [.int .i64 9].toArray) else .nilIface) ∧ Grew w w' [] := by
  refine enter (N := 50) [(0, .agg [.slice (some ⟨Lb, 0, none⟩) 1 1, .slice (some ⟨Sb, 0, none⟩) 1 1, .int .i64 1, .slice (some ⟨Wb, 0, none⟩) 1 1].toArray), (1, .agg [.int .i64 (k : Int), .int .i64 0, .int .i64 0, .int .i64 (m : Int), .int .i64 0, .int .i64 0, .int .i64 0, .int .i64 0, .int .i64 0, .int .i64 (p : Int)].toArray)] Tryd.func47 rfl Tryd.ntmps47 rfl rfl ?_
  refine cod_seq ?_
  refine cod_region ?_
  refine lst_box rfl rfl ?_
  intro b2
  refine lst_box rfl rfl ?_
  intro b3
  refine lst_assign rfl rfl ?_
  refine lst_nil ?_
  refine ex_then ?_
  refine cod_seq ?_
  refine cod_seq ?_
  refine cod_region ?_
  refine lst_field_z rfl rfl F.fi78_0 F.ti40 ?_
  refine lst_field_z rfl rfl F.fi40_1 F.ti22 ?_
  refine lst_load rfl rfl F.one22 ?_
  refine lst_len rfl rfl Tryd.underlying22 ?_
  refine lst_move rfl rfl ?_
  refine lst_nil ?_
  refine ex_then ?_
  refine cod_block ?_
  refine cod_rounds 1 ?_
  refine cod_seq ?_
  refine cod_region ?_
  refine lst_int rfl rfl rfl bin_lss ?_
  refine lst_nil ?_
  refine ex_then ?_
  refine cod_seq ?_
  refine cod_cond_true rfl ?_
  refine cod_skip ?_
  refine ex_then ?_
  refine cod_seq ?_
  refine cod_block ?_
  refine cod_seq ?_
  refine cod_region ?_
  refine lst_move rfl rfl ?_
  refine lst_index (j := 0) rfl rfl rfl Tryd.underlying22 F.ti3 rfl (by decide) ?_
  refine lst_load_at (v := .int .i64 (st : Int)) rfl rfl F.one3 (fun a w ha => ha.old hM.S (cell_lt hM.S)) ?_
  refine lst_assign rfl rfl ?_
  refine lst_assign rfl rfl ?_
  refine lst_nil ?_
  refine ex_then ?_
  refine cod_seq ?_
  refine cod_region ?_
  refine lst_move rfl rfl ?_
  refine lst_field_z rfl rfl F.fi88_0 F.ti86 ?_
  refine lst_index_lit (j := 0) (off := 0) rfl rfl rfl Tryd.underlying86 F.ti3 rfl rfl ?_
  refine lst_load rfl rfl F.one3 ?_
  refine lst_move rfl rfl ?_
  refine lst_int rfl rfl rfl bin_gtr ?_
  refine lst_nil ?_
  refine ex_then ?_
  refine cod_cond_dec rfl (fun hc1 => ?_) (fun hc1 => ?_)
  · skip
    exact absurd hc1 (by omega) -- done
  · skip
    refine cod_skip ?_
    refine ex_block_normal ?_
    refine ex_then ?_
    refine cod_region ?_
    refine lst_int (v := .int .i64 1) rfl rfl rfl (fun w => bin_add w (by decide)) ?_
    refine lst_move rfl rfl ?_
    refine lst_nil ?_
    refine ex_rounds ?_
    refine cod_seq ?_
    refine cod_region ?_
    refine lst_int rfl rfl rfl bin_lss ?_
    refine lst_nil ?_
    refine ex_then ?_
    refine cod_seq ?_
    refine cod_cond_false rfl ?_
    refine cod_exit ?_
    refine ex_then_exit ?_
    refine ex_then_exit ?_
    refine ex_block_exit ?_
    refine ex_then ?_
    refine cod_seq ?_
    refine cod_seq ?_
    refine cod_region ?_
    refine lst_field_z rfl rfl F.fi78_0 F.ti40 ?_
    refine lst_field_z rfl rfl F.fi40_1 F.ti22 ?_
    refine lst_load rfl rfl F.one22 ?_
    refine lst_len rfl rfl Tryd.underlying22 ?_
    refine lst_move rfl rfl ?_
    refine lst_nil ?_
    refine ex_then ?_
    refine cod_block ?_
    refine cod_rounds 1 ?_
    refine cod_seq ?_
    refine cod_region ?_
    refine lst_int rfl rfl rfl bin_lss ?_
    refine lst_nil ?_
    refine ex_then ?_
    refine cod_seq ?_
    refine cod_cond_true rfl ?_
    refine cod_skip ?_
    refine ex_then ?_
    refine cod_seq ?_
    refine cod_block ?_
    refine cod_seq ?_
    refine cod_region ?_
    refine lst_move rfl rfl ?_
    refine lst_assign rfl rfl ?_
    refine lst_nil ?_
    refine ex_then ?_
    refine cod_seq ?_
    refine any_begin [] F.follows 9 rfl [false, false, false, false, false, false, false, false, false] rfl ?_
    refine any_take (listed' := [true, false, false, false, false, false, false, false, false].toArray) 0 rfl rfl rfl (by kernel_rfl) (by kernel_rfl) (by kernel_rfl) (by repeat (first | exact List.Sublist.refl _ | exact List.nil_sublist _ | refine List.Sublist.cons_cons _ ?_ | refine List.Sublist.cons _ ?_)) (yld_move rfl) rfl ?_
    refine any_take (listed' := [true, true, false, false, false, false, false, false, false].toArray) 1 rfl rfl rfl (by kernel_rfl) (by kernel_rfl) (by kernel_rfl) (by repeat (first | exact List.Sublist.refl _ | exact List.nil_sublist _ | refine List.Sublist.cons_cons _ ?_ | refine List.Sublist.cons _ ?_)) (yld_field_z rfl F.fi88_1 F.ti86) rfl ?_
    refine any_take (listed' := [true, true, true, false, false, false, false, false, false].toArray) 2 rfl rfl rfl (by kernel_rfl) (by kernel_rfl) (by kernel_rfl) (by repeat (first | exact List.Sublist.refl _ | exact List.nil_sublist _ | refine List.Sublist.cons_cons _ ?_ | refine List.Sublist.cons _ ?_)) (yld_index_lit (j := 0) (off := 3) rfl rfl Tryd.underlying86 F.ti3 rfl rfl) rfl ?_
    refine any_take (listed' := [true, true, true, true, false, false, false, false, false].toArray) 3 rfl rfl rfl (by kernel_rfl) (by kernel_rfl) (by kernel_rfl) (by repeat (first | exact List.Sublist.refl _ | exact List.nil_sublist _ | refine List.Sublist.cons_cons _ ?_ | refine List.Sublist.cons _ ?_)) (yld_load rfl F.one3) rfl ?_
    refine any_take (listed' := [true, true, true, true, true, false, false, false, false].toArray) 4 rfl rfl rfl (by kernel_rfl) (by kernel_rfl) (by kernel_rfl) (by repeat (first | exact List.Sublist.refl _ | exact List.nil_sublist _ | refine List.Sublist.cons_cons _ ?_ | refine List.Sublist.cons _ ?_)) (yld_move rfl) rfl ?_
    refine any_take (listed' := [true, true, true, true, true, true, false, false, false].toArray) 5 rfl rfl rfl (by kernel_rfl) (by kernel_rfl) (by kernel_rfl) (by repeat (first | exact List.Sublist.refl _ | exact List.nil_sublist _ | refine List.Sublist.cons_cons _ ?_ | refine List.Sublist.cons _ ?_)) (yld_field_z rfl F.fi88_2 F.ti86) rfl ?_
    refine any_take (listed' := [true, true, true, true, true, true, true, false, false].toArray) 6 rfl rfl rfl (by kernel_rfl) (by kernel_rfl) (by kernel_rfl) (by repeat (first | exact List.Sublist.refl _ | exact List.nil_sublist _ | refine List.Sublist.cons_cons _ ?_ | refine List.Sublist.cons _ ?_)) (yld_index_lit (j := 0) (off := 6) rfl rfl Tryd.underlying86 F.ti3 rfl rfl) rfl ?_
    refine any_take (listed' := [true, true, true, true, true, true, true, true, false].toArray) 7 rfl rfl rfl (by kernel_rfl) (by kernel_rfl) (by kernel_rfl) (by repeat (first | exact List.Sublist.refl _ | exact List.nil_sublist _ | refine List.Sublist.cons_cons _ ?_ | refine List.Sublist.cons _ ?_)) (yld_load rfl F.one3) rfl ?_
    refine any_take (listed' := [true, true, true, true, true, true, true, true, true].toArray) 8 rfl rfl rfl (by kernel_rfl) (by kernel_rfl) (by kernel_rfl) (by repeat (first | exact List.Sublist.refl _ | exact List.nil_sublist _ | refine List.Sublist.cons_cons _ ?_ | refine List.Sublist.cons _ ?_)) (yld_int rfl rfl bin_lss) rfl ?_
    refine any_done rfl (by kernel_rfl) ?_
    refine ex_then ?_
    refine cod_cond_dec rfl (fun hc3 => ?_) (fun hc3 => ?_)
    · skip
      exact absurd hc3 (by omega) -- done
    · skip
      refine cod_skip ?_
      refine ex_block_normal ?_
      refine ex_then ?_
      refine cod_region ?_
      refine lst_int (v := .int .i64 1) rfl rfl rfl (fun w => bin_add w (by decide)) ?_
      refine lst_move rfl rfl ?_
      refine lst_nil ?_
      refine ex_rounds ?_
      refine cod_seq ?_
      refine cod_region ?_
      refine lst_int rfl rfl rfl bin_lss ?_
      refine lst_nil ?_
      refine ex_then ?_
      refine cod_seq ?_
      refine cod_cond_false rfl ?_
      refine cod_exit ?_
      refine ex_then_exit ?_
      refine ex_then_exit ?_
      refine ex_block_exit ?_
      refine ex_then ?_
      refine cod_seq ?_
      refine cod_seq ?_
      refine cod_region ?_
      refine lst_loadN rfl rfl F.agg88 F.ti88 ?_
      refine lst_fn0 (vs := [_]) rfl rfl F.ent29 (fun a w ha => sleft_c k m p (by omega) hM.p60 w) ?_
      refine lst_int rfl rfl rfl bin_lss ?_
      refine lst_nil ?_
      refine ex_then ?_
      refine cod_cond_dec rfl (fun hc4 => ?_) (fun hc4 => ?_)
      · skip
        refine cod_seq ?_
        refine cod_region ?_
        refine lst_struct (vs := [(0, _)]) (l' := [_]) rfl rfl F.ti148 F.pl148 (.cons rfl rfl (.nil _)) rfl ?_
        refine lst_makeInterface rfl rfl Tryd.underlying148 rfl ?_
        refine lst_assign rfl rfl ?_
        refine lst_nil ?_
        refine ex_then ?_
        refine cod_ret ?_
        refine ex_then_ret ?_
        exact ex_ret rfl (fun a w ha => res_one rfl rfl ha) (fun a w ha => ⟨by rw [if_pos (by omega)], ha.grown (List.nil_sublist _)⟩)
      · skip
        refine cod_skip ?_
        refine ex_then ?_
        refine cod_seq ?_
        refine cod_region ?_
        refine lst_assign rfl rfl ?_
        refine lst_nil ?_
        refine ex_then ?_
        refine cod_ret ?_
        exact ex_ret rfl (fun a w ha => res_one rfl rfl ha) (fun a w ha => ⟨by rw [if_neg (by omega)], ha.grown (List.nil_sublist _)⟩)

theorem serrno_c  (w : World) : Calls Tryd.prog 46 #[.nilIface] w fun e w' => e = .returned (.int .i64 0) ∧ Grew w w' [] := by
  refine enter (N := 9) [(0, .nilIface)] Tryd.func46 rfl Tryd.ntmps46 rfl rfl ?_
  refine cod_seq ?_
  refine cod_region ?_
  refine lst_assign rfl rfl ?_
  refine lst_nil ?_
  refine ex_then ?_
  refine cod_seq ?_
  refine cod_region ?_
  refine lst_alloc rfl F.ti148 ?_
  intro b3
  refine lst_nil ?_
  refine ex_then ?_
  refine cod_seq ?_
  refine cod_seq ?_
  refine cod_region ?_
  refine lst_move rfl rfl ?_
  refine lst_makeInterface rfl rfl Tryd.underlying149 rfl ?_
  refine lst_fn0 (vs := [_, _]) rfl rfl F.ent51 (fun a w ha => as_nil _ w) ?_
  refine lst_nil ?_
  refine ex_then ?_
  refine cod_cond_false rfl ?_
  refine cod_skip ?_
  refine ex_then ?_
  refine cod_seq ?_
  refine cod_region ?_
  refine lst_assign rfl rfl ?_
  refine lst_nil ?_
  refine ex_then ?_
  refine cod_ret ?_
  exact ex_ret rfl (fun a w ha => res_one rfl rfl ha) (fun a w ha => ⟨rfl, ha.grown (List.nil_sublist _)⟩)

theorem scuts_c (l : List Nat) (lA : Option Addr) (lc Lb Sb Wb st p : Nat) (w : World) (hM : SawM w l lA lc Lb Sb Wb st p) : Calls Tryd.prog 69 #[.agg [.slice (some ⟨Lb, 0, none⟩) 1 1, .slice (some ⟨Sb, 0, none⟩) 1 1, .int .i64 1, .slice (some ⟨Wb, 0, none⟩) 1 1].toArray, .int .u8 1] w fun e w' => e = .returned (.int .i64 0) ∧ Grew w w' [] := by
  refine enter (N := 37) [(0, .agg [.slice (some ⟨Lb, 0, none⟩) 1 1, .slice (some ⟨Sb, 0, none⟩) 1 1, .int .i64 1, .slice (some ⟨Wb, 0, none⟩) 1 1].toArray), (1, .int .u8 1)] Tryd.func69 rfl Tryd.ntmps69 rfl rfl ?_
  refine cod_seq ?_
  refine cod_region ?_
  refine lst_box rfl rfl ?_
  intro b2
  refine lst_assign rfl rfl ?_
  refine lst_nil ?_
  refine ex_then ?_
  refine cod_seq ?_
  refine cod_region ?_
  refine lst_assign rfl rfl ?_
  refine lst_nil ?_
  refine ex_then ?_
  refine cod_seq ?_
  refine cod_seq ?_
  refine cod_region ?_
  refine lst_move rfl rfl ?_
  refine lst_fn (X := Option Addr × Nat) (vs := [_]) (p := fun _ => True) (val := fun y => .slice y.1 1 y.2) (rs := fun y => [.row 3 1 y.1 1 y.2 [.int .i64 0]]) rfl rfl F.ent27 (fun a w ha => (listw_c w).mono (fun e w' h => by obtain ⟨A, c, h1, h2⟩ := h; exact ⟨(A, c), trivial, h1, h2⟩)) ?_
  rintro ⟨A, c⟩ -
  dsimp only [List.cons_append, List.nil_append]
  refine lst_len rfl rfl Tryd.underlying22 ?_
  refine lst_move rfl rfl ?_
  refine lst_nil ?_
  refine ex_then ?_
  refine cod_block ?_
  refine cod_rounds 1 ?_
  refine cod_know (fun a w ha => row_some (ha.own _ (InR.mem (A := A))) (by decide)) ?_
  rintro ⟨g, rfl⟩
  refine cod_seq ?_
  refine cod_region ?_
  refine lst_int rfl rfl rfl bin_lss ?_
  refine lst_nil ?_
  refine ex_then ?_
  refine cod_seq ?_
  refine cod_cond_true rfl ?_
  refine cod_skip ?_
  refine ex_then ?_
  refine cod_seq ?_
  refine cod_block ?_
  refine cod_seq ?_
  refine cod_region ?_
  refine lst_index (j := 0) rfl rfl rfl Tryd.underlying22 F.ti3 rfl (by decide) ?_
  refine lst_load_row (v := .int .i64 0) rfl rfl F.one3 rfl rfl ?_
  refine lst_assign rfl rfl ?_
  refine lst_nil ?_
  refine ex_then ?_
  refine cod_seq ?_
  refine any_begin [] F.follows 8 rfl [false, false, false, false, false, false, false, false] rfl ?_
  refine any_take (listed' := [true, false, false, false, false, false, false, false].toArray) 0 rfl rfl rfl (by kernel_rfl) (by kernel_rfl) (by kernel_rfl) (by repeat (first | exact List.Sublist.refl _ | exact List.nil_sublist _ | refine List.Sublist.cons_cons _ ?_ | refine List.Sublist.cons _ ?_)) (yld_loadN rfl F.agg78 F.ti78) rfl ?_
  refine any_take (listed' := [true, true, false, false, false, false, false, false].toArray) 1 rfl rfl rfl (by kernel_rfl) (by kernel_rfl) (by kernel_rfl) (by repeat (first | exact List.Sublist.refl _ | exact List.nil_sublist _ | refine List.Sublist.cons_cons _ ?_ | refine List.Sublist.cons _ ?_)) (yld_field_z rfl F.fi78_0 F.ti40) rfl ?_
  refine any_take (listed' := [true, true, true, false, false, false, false, false].toArray) 2 rfl rfl rfl (by kernel_rfl) (by kernel_rfl) (by kernel_rfl) (by repeat (first | exact List.Sublist.refl _ | exact List.nil_sublist _ | refine List.Sublist.cons_cons _ ?_ | refine List.Sublist.cons _ ?_)) (yld_field_z rfl F.fi40_3 F.ti38) rfl ?_
  refine any_take (listed' := [true, true, true, true, false, false, false, false].toArray) 3 rfl rfl rfl (by kernel_rfl) (by kernel_rfl) (by kernel_rfl) (by repeat (first | exact List.Sublist.refl _ | exact List.nil_sublist _ | refine List.Sublist.cons_cons _ ?_ | refine List.Sublist.cons _ ?_)) (yld_load rfl F.one38) rfl ?_
  refine any_take (listed' := [true, true, true, true, true, false, false, false].toArray) 4 rfl rfl rfl (by kernel_rfl) (by kernel_rfl) (by kernel_rfl) (by repeat (first | exact List.Sublist.refl _ | exact List.nil_sublist _ | refine List.Sublist.cons_cons _ ?_ | refine List.Sublist.cons _ ?_)) (yld_move rfl) rfl ?_
  refine any_take (listed' := [true, true, true, true, true, true, false, false].toArray) 5 rfl rfl rfl (by kernel_rfl) (by kernel_rfl) (by kernel_rfl) (by repeat (first | exact List.Sublist.refl _ | exact List.nil_sublist _ | refine List.Sublist.cons_cons _ ?_ | refine List.Sublist.cons _ ?_)) (yld_index (j := 0) rfl rfl Tryd.underlying38 F.ti75 rfl (by decide)) rfl ?_
  refine any_take (listed' := [true, true, true, true, true, true, true, false].toArray) 6 rfl rfl rfl (by kernel_rfl) (by kernel_rfl) (by kernel_rfl) (by repeat (first | exact List.Sublist.refl _ | exact List.nil_sublist _ | refine List.Sublist.cons_cons _ ?_ | refine List.Sublist.cons _ ?_)) (yld_loadN_at (l := [.int .i64 1, .int .i64 (-1), .int .i64 (p : Int), .int .i64 0]) rfl F.agg75 F.ti75 rfl (fun a w ha j u hj => ha.old (hM.W j u hj) (cell_lt (hM.W j u hj)))) rfl ?_
  refine any_one (listed' := [true, true, true, true, true, true, true, true].toArray) 7 (by kernel_rfl) rfl rfl ?_
  refine lst_fn0 (vs := [_, _]) rfl rfl F.ent61 (fun a w ha => sorder_c Lb Sb Wb p w) ?_
  refine lst_nil ?_
  refine any_next (by repeat (first | exact List.Sublist.refl _ | exact List.nil_sublist _ | refine List.Sublist.cons_cons _ ?_ | refine List.Sublist.cons _ ?_)) ?_
  refine any_done rfl (by kernel_rfl) ?_
  refine ex_then ?_
  refine cod_block ?_
  refine cod_seq ?_
  refine cod_region ?_
  refine lst_assert rfl rfl (fun w => Saw.as173 _ w) ?_
  refine lst_extract rfl rfl rfl ?_
  refine lst_extract rfl rfl rfl ?_
  refine lst_nil ?_
  refine ex_then ?_
  refine cod_cond_false rfl ?_
  refine cod_seq ?_
  refine cod_region ?_
  refine lst_assert rfl rfl (fun w => Saw.as169 _ w) ?_
  refine lst_extract rfl rfl rfl ?_
  refine lst_extract rfl rfl rfl ?_
  refine lst_assert rfl rfl (fun w => Saw.as171 _ w) ?_
  refine lst_extract rfl rfl rfl ?_
  refine lst_extract rfl rfl rfl ?_
  refine lst_pick rfl rfl rfl rfl ?_
  refine lst_nil ?_
  refine ex_then ?_
  refine cod_cond_true rfl ?_
  refine cod_skip ?_
  refine ex_block_normal ?_
  refine ex_block_normal ?_
  refine ex_then ?_
  refine cod_region ?_
  refine lst_int (v := .int .i64 1) rfl rfl rfl (fun w => bin_add w (by decide)) ?_
  refine lst_move rfl rfl ?_
  refine lst_nil ?_
  refine ex_rounds ?_
  refine cod_seq ?_
  refine cod_region ?_
  refine lst_int rfl rfl rfl bin_lss ?_
  refine lst_nil ?_
  refine ex_then ?_
  refine cod_seq ?_
  refine cod_cond_false rfl ?_
  refine cod_exit ?_
  refine ex_then_exit ?_
  refine ex_then_exit ?_
  refine ex_block_exit ?_
  refine ex_then ?_
  refine cod_seq ?_
  refine cod_region ?_
  refine lst_move rfl rfl ?_
  refine lst_assign rfl rfl ?_
  refine lst_nil ?_
  refine ex_then ?_
  refine cod_ret ?_
  exact ex_ret rfl (fun a w ha => res_one rfl rfl ha) (fun a w ha => ⟨rfl, ha.grown (List.nil_sublist _)⟩)

theorem splans_c (Lb Sb Wb : Nat) (w : World) : Calls Tryd.prog 58 #[.agg [.slice (some ⟨Lb, 0, none⟩) 1 1, .slice (some ⟨Sb, 0, none⟩) 1 1, .int .i64 1, .slice (some ⟨Wb, 0, none⟩) 1 1].toArray, .int .u8 1] w fun e w' => ∃ b2 b3 : Nat, e = .returned (.func (.func 68) ([] : List Value).toArray [.pointer (some ⟨b2, 0, none⟩), .pointer (some ⟨b3, 0, none⟩)].toArray) ∧ Grew w w' [.blk b3 (.cells [.int .u8 1].toArray 82 (0, 0)), .blk b2 (.cells [.slice (some ⟨Lb, 0, none⟩) 1 1, .slice (some ⟨Sb, 0, none⟩) 1 1, .int .i64 1, .slice (some ⟨Wb, 0, none⟩) 1 1].toArray 78 (0, 0))] := by
  refine enter (N := 6) [(0, .agg [.slice (some ⟨Lb, 0, none⟩) 1 1, .slice (some ⟨Sb, 0, none⟩) 1 1, .int .i64 1, .slice (some ⟨Wb, 0, none⟩) 1 1].toArray), (1, .int .u8 1)] Tryd.func58 rfl Tryd.ntmps58 rfl rfl ?_
  refine cod_seq ?_
  refine cod_region ?_
  refine lst_box rfl rfl ?_
  intro b2
  refine lst_box rfl rfl ?_
  intro b3
  refine lst_assign rfl rfl ?_
  refine lst_nil ?_
  refine ex_then ?_
  refine cod_seq ?_
  refine cod_region ?_
  refine lst_makeFunc (fs := []) (cs := [_, _]) rfl rfl rfl ?_
  refine lst_assign rfl rfl ?_
  refine lst_nil ?_
  refine ex_then ?_
  refine cod_ret ?_
  exact ex_ret rfl (fun a w ha => res_one rfl rfl ha) (fun a w ha => ⟨b2, b3, rfl, ha.grown (by repeat (first | exact List.Sublist.refl _ | exact List.nil_sublist _ | refine List.Sublist.cons_cons _ ?_ | refine List.Sublist.cons _ ?_))⟩)

theorem sclone_c (q : Addr) (c : Nat) (l : List Nat) (hl : l.length ≤ 400000) (w : World) (hA : RdL ncell 1 w (some q) l) : Calls Tryd.prog 60 #[.slice (some q) l.length c] w fun e w' => ∃ A' c', e = .returned (.slice A' l.length c') ∧ Grew w w' [.row 3 1 A' l.length c' (ints l)] := by
  refine enter (N := 8) [(0, .slice (some q) l.length c)] Tryd.func60 rfl Tryd.ntmps60 rfl rfl ?_
  refine cod_seq ?_
  refine cod_region ?_
  refine lst_assign rfl rfl ?_
  refine lst_nil ?_
  refine ex_then ?_
  refine cod_seq ?_
  refine cod_seq ?_
  refine cod_region ?_
  refine lst_move rfl rfl ?_
  refine lst_bin rfl rfl rfl (run_eql_nil Tryd.underlying22 _ _ _ _ _) ?_
  refine lst_nil ?_
  refine ex_then ?_
  refine cod_cond_false rfl ?_
  refine cod_skip ?_
  refine ex_then ?_
  refine cod_seq ?_
  refine cod_region ?_
  refine lst_lit0 rfl Tryd.underlying22 F.ti3 ?_
  intro b5
  refine lst_as_row 1 (.head _) ?_
  refine lst_move rfl rfl ?_
  refine lst_append_ints rfl rfl rfl Tryd.underlying22 F.ti3 rfl (fun a w ha j u hu => (hA.later ha.below).ints_at hu) rfl (by unfold maxLen; omega) (by omega) ?_
  intro A1 c1
  refine lst_assign rfl rfl ?_
  refine lst_nil ?_
  refine ex_then ?_
  refine cod_ret ?_
  simp only [Nat.zero_add, List.nil_append]
  exact ex_ret rfl (fun a w ha => res_one rfl rfl ha) (fun a w ha => ⟨A1, c1, rfl, ha.grown (by repeat (first | exact List.Sublist.refl _ | exact List.nil_sublist _ | refine List.Sublist.cons_cons _ ?_ | refine List.Sublist.cons _ ?_))⟩)

theorem slist_c (Lb Sb Wb k : Nat) (w : World) : Calls Tryd.prog 42 #[.agg [.slice (some ⟨Lb, 0, none⟩) 1 1, .slice (some ⟨Sb, 0, none⟩) 1 1, .int .i64 1, .slice (some ⟨Wb, 0, none⟩) 1 1].toArray, .agg [.int .i64 (k : Int), .int .i64 0, .int .i64 0].toArray] w fun e w' => ∃ A' c', e = .returned (.slice A' 1 c') ∧ Grew w w' [.row 3 1 A' 1 c' (ints [k])] := by
  refine enter (N := 11) [(0, .agg [.slice (some ⟨Lb, 0, none⟩) 1 1, .slice (some ⟨Sb, 0, none⟩) 1 1, .int .i64 1, .slice (some ⟨Wb, 0, none⟩) 1 1].toArray), (1, .agg [.int .i64 (k : Int), .int .i64 0, .int .i64 0].toArray)] Tryd.func42 rfl Tryd.ntmps42 rfl rfl ?_
  refine cod_seq ?_
  refine cod_region ?_
  refine lst_box rfl rfl ?_
  intro b2
  refine lst_box rfl rfl ?_
  intro b3
  refine lst_assign rfl rfl ?_
  refine lst_nil ?_
  refine ex_then ?_
  refine cod_seq ?_
  refine cod_region ?_
  refine lst_field_z rfl rfl F.fi78_0 F.ti40 ?_
  refine lst_field_z rfl rfl F.fi40_0 F.ti37 ?_
  refine lst_load rfl rfl F.one37 ?_
  refine lst_len rfl rfl Tryd.underlying37 ?_
  refine lst_slice_arr (h := 1) rfl rfl rfl Tryd.underlying86 F.ti3 (by decide) ?_
  refine lst_fn (X := Option Addr × Nat) (vs := [_]) (p := fun _ => True) (val := fun y => .slice y.1 1 y.2) (rs := fun y => [.row 3 1 y.1 1 y.2 (ints [k])]) rfl rfl F.ent60 (fun a w ha => (sclone_c ⟨b3, 0, none⟩ 3 [k] (by simp) w (RdL.pre (m := [0, 0]) (blk_reads ha (cells := ncell) (size := 1) (fun _ => rfl) rfl))).mono (fun e w' h => by obtain ⟨A, c, h1, h2⟩ := h; exact ⟨(A, c), trivial, h1, h2⟩)) ?_
  rintro ⟨A, c⟩ -
  dsimp only [List.cons_append, List.nil_append]
  refine lst_assign rfl rfl ?_
  refine lst_nil ?_
  refine ex_then ?_
  refine cod_ret ?_
  exact ex_ret rfl (fun a w ha => res_one rfl rfl ha) (fun a w ha => ⟨A, c, rfl, ha.grown (by repeat (first | exact List.Sublist.refl _ | exact List.nil_sublist _ | refine List.Sublist.cons_cons _ ?_ | refine List.Sublist.cons _ ?_))⟩)

theorem stake_c {C : Ctx} {fr : List (Nat × Value)} {T : List Res} {a : Act} {w : World} (hC : C.P = Tryd.prog) {fb k m : Nat} (ha : At C fr (.blk fb (.cells [.func (.func 57) ([] : List Value).toArray ([] : List Value).toArray, .int .u8 0, .int .i64 0, .int .i64 0, .int .i64 0, .int .i64 0, .int .i64 0, .bool false, .bool false].toArray 136 (0, 0)) :: T) a w) : Calls C.P 59 #[.pointer (some ⟨fb, 0, none⟩), .agg [.int .u8 1, .int .i64 (k : Int), .int .i64 0, .int .i64 0, .int .i64 (k : Int), .int .i64 (m : Int), .bool true].toArray] w fun e w' => (∃ v, e = .returned v) ∧ At C fr (.blk fb (.cells [.func (.func 57) ([] : List Value).toArray ([] : List Value).toArray, .int .u8 1, .int .i64 (k : Int), .int .i64 0, .int .i64 0, .int .i64 (k : Int), .int .i64 (m : Int), .bool true, .bool true].toArray 136 (0, 0)) :: T) a w' := by
  obtain ⟨P, B, w0, N0, ds⟩ := C
  obtain rfl : P = Tryd.prog := hC
  (try dsimp only at hB)
  (try dsimp only at hN)
  refine enter_in (N := 28) [(0, .pointer (some ⟨fb, 0, none⟩)), (1, .agg [.int .u8 1, .int .i64 (k : Int), .int .i64 0, .int .i64 0, .int .i64 (k : Int), .int .i64 (m : Int), .bool true].toArray)] ha Tryd.func59 rfl Tryd.ntmps59 rfl rfl ?_
  refine cod_seq ?_
  refine cod_region ?_
  refine lst_box rfl rfl ?_
  intro b3
  refine lst_nil ?_
  refine ex_then ?_
  refine cod_seq ?_
  refine any_begin [] F.follows 17 rfl [false, false, false, false, false, false, false, false, false, false, false, false, false, false, false, false, false] rfl ?_
  refine any_take (listed' := [true, false, false, false, false, false, false, false, false, false, false, false, false, false, false, false, false].toArray) 0 rfl rfl rfl (by kernel_rfl) (by kernel_rfl) (by kernel_rfl) (by repeat (first | exact List.Sublist.refl _ | exact List.nil_sublist _ | refine List.Sublist.cons_cons _ ?_ | refine List.Sublist.cons _ ?_)) (yld_move rfl) rfl ?_
  refine any_take (listed' := [true, true, false, false, false, false, false, false, false, false, false, false, false, false, false, false, false].toArray) 1 rfl rfl rfl (by kernel_rfl) (by kernel_rfl) (by kernel_rfl) (by repeat (first | exact List.Sublist.refl _ | exact List.nil_sublist _ | refine List.Sublist.cons_cons _ ?_ | refine List.Sublist.cons _ ?_)) (yld_nilCheck rfl) rfl ?_
  refine any_take (listed' := [true, true, true, false, false, false, false, false, false, false, false, false, false, false, false, false, false].toArray) 2 rfl rfl rfl (by kernel_rfl) (by kernel_rfl) (by kernel_rfl) (by repeat (first | exact List.Sublist.refl _ | exact List.nil_sublist _ | refine List.Sublist.cons_cons _ ?_ | refine List.Sublist.cons _ ?_)) (yld_field_z rfl F.fi136_2 F.ti4) rfl ?_
  refine any_take (listed' := [true, true, true, true, false, false, false, false, false, false, false, false, false, false, false, false, false].toArray) 3 rfl rfl rfl (by kernel_rfl) (by kernel_rfl) (by kernel_rfl) (by repeat (first | exact List.Sublist.refl _ | exact List.nil_sublist _ | refine List.Sublist.cons_cons _ ?_ | refine List.Sublist.cons _ ?_)) (yld_load rfl F.one4) rfl ?_
  refine any_take (listed' := [true, true, true, true, true, false, false, false, false, false, false, false, false, false, false, false, false].toArray) 4 rfl rfl rfl (by kernel_rfl) (by kernel_rfl) (by kernel_rfl) (by repeat (first | exact List.Sublist.refl _ | exact List.nil_sublist _ | refine List.Sublist.cons_cons _ ?_ | refine List.Sublist.cons _ ?_)) (yld_not rfl) rfl ?_
  refine any_take (listed' := [true, true, true, true, true, true, false, false, false, false, false, false, false, false, false, false, false].toArray) 5 rfl rfl rfl (by kernel_rfl) (by kernel_rfl) (by kernel_rfl) (by repeat (first | exact List.Sublist.refl _ | exact List.nil_sublist _ | refine List.Sublist.cons_cons _ ?_ | refine List.Sublist.cons _ ?_)) (yld_move rfl) rfl ?_
  refine any_take_off (listed' := [true, true, true, true, true, true, true, false, false, false, false, false, false, false, false, false, false].toArray) 6 rfl rfl rfl rfl rfl (by kernel_rfl) (by kernel_rfl) (by kernel_rfl) (by repeat (first | exact List.Sublist.refl _ | exact List.nil_sublist _ | refine List.Sublist.cons_cons _ ?_ | refine List.Sublist.cons _ ?_)) rfl ?_
  refine any_take_off (listed' := [true, true, true, true, true, true, true, true, false, false, false, false, false, false, false, false, false].toArray) 7 rfl rfl rfl rfl rfl (by kernel_rfl) (by kernel_rfl) (by kernel_rfl) (by repeat (first | exact List.Sublist.refl _ | exact List.nil_sublist _ | refine List.Sublist.cons_cons _ ?_ | refine List.Sublist.cons _ ?_)) rfl ?_
  refine any_take_off (listed' := [true, true, true, true, true, true, true, true, true, false, false, false, false, false, false, false, false].toArray) 8 rfl rfl rfl rfl rfl (by kernel_rfl) (by kernel_rfl) (by kernel_rfl) (by repeat (first | exact List.Sublist.refl _ | exact List.nil_sublist _ | refine List.Sublist.cons_cons _ ?_ | refine List.Sublist.cons _ ?_)) rfl ?_
  refine any_take_off (listed' := [true, true, true, true, true, true, true, true, true, true, false, false, false, false, false, false, false].toArray) 9 rfl rfl rfl rfl rfl (by kernel_rfl) (by kernel_rfl) (by kernel_rfl) (by repeat (first | exact List.Sublist.refl _ | exact List.nil_sublist _ | refine List.Sublist.cons_cons _ ?_ | refine List.Sublist.cons _ ?_)) rfl ?_
  refine any_take_off (listed' := [true, true, true, true, true, true, true, true, true, true, true, false, false, false, false, false, false].toArray) 10 rfl rfl rfl rfl rfl (by kernel_rfl) (by kernel_rfl) (by kernel_rfl) (by repeat (first | exact List.Sublist.refl _ | exact List.nil_sublist _ | refine List.Sublist.cons_cons _ ?_ | refine List.Sublist.cons _ ?_)) rfl ?_
  refine any_take_off (listed' := [true, true, true, true, true, true, true, true, true, true, true, true, false, false, false, false, false].toArray) 11 rfl rfl rfl rfl rfl (by kernel_rfl) (by kernel_rfl) (by kernel_rfl) (by repeat (first | exact List.Sublist.refl _ | exact List.nil_sublist _ | refine List.Sublist.cons_cons _ ?_ | refine List.Sublist.cons _ ?_)) rfl ?_
  refine any_take_off (listed' := [true, true, true, true, true, true, true, true, true, true, true, true, true, false, false, false, false].toArray) 12 rfl rfl rfl rfl rfl (by kernel_rfl) (by kernel_rfl) (by kernel_rfl) (by repeat (first | exact List.Sublist.refl _ | exact List.nil_sublist _ | refine List.Sublist.cons_cons _ ?_ | refine List.Sublist.cons _ ?_)) rfl ?_
  refine any_take_off (listed' := [true, true, true, true, true, true, true, true, true, true, true, true, true, true, false, false, false].toArray) 13 rfl rfl rfl rfl rfl (by kernel_rfl) (by kernel_rfl) (by kernel_rfl) (by repeat (first | exact List.Sublist.refl _ | exact List.nil_sublist _ | refine List.Sublist.cons_cons _ ?_ | refine List.Sublist.cons _ ?_)) rfl ?_
  refine any_take_off (listed' := [true, true, true, true, true, true, true, true, true, true, true, true, true, true, true, false, false].toArray) 14 rfl rfl rfl rfl rfl (by kernel_rfl) (by kernel_rfl) (by kernel_rfl) (by repeat (first | exact List.Sublist.refl _ | exact List.nil_sublist _ | refine List.Sublist.cons_cons _ ?_ | refine List.Sublist.cons _ ?_)) rfl ?_
  refine any_take_off (listed' := [true, true, true, true, true, true, true, true, true, true, true, true, true, true, true, true, false].toArray) 15 rfl rfl rfl rfl rfl (by kernel_rfl) (by kernel_rfl) (by kernel_rfl) (by repeat (first | exact List.Sublist.refl _ | exact List.nil_sublist _ | refine List.Sublist.cons_cons _ ?_ | refine List.Sublist.cons _ ?_)) rfl ?_
  refine any_take (listed' := [true, true, true, true, true, true, true, true, true, true, true, true, true, true, true, true, true].toArray) 16 rfl rfl rfl (by kernel_rfl) (by kernel_rfl) (by kernel_rfl) (by repeat (first | exact List.Sublist.refl _ | exact List.nil_sublist _ | refine List.Sublist.cons_cons _ ?_ | refine List.Sublist.cons _ ?_)) (yld_pick_true rfl rfl) rfl ?_
  refine any_done rfl (by kernel_rfl) ?_
  refine ex_then ?_
  refine cod_cond_true rfl ?_
  refine cod_region ?_
  refine lst_move rfl rfl ?_
  refine lst_move rfl rfl ?_
  refine lst_loadN rfl rfl F.agg111 F.ti111 ?_
  refine lst_nilCheck rfl rfl ?_
  refine lst_field_z rfl rfl F.fi136_1 F.ti111 ?_
  refine lst_store rfl rfl F.ti111 rfl ?_
  refine lst_nilCheck rfl rfl ?_
  refine lst_field_z rfl rfl F.fi136_2 F.ti4 ?_
  refine lst_store rfl rfl F.ti4 rfl ?_
  refine lst_nil ?_
  exact ex_end rfl (fun a w ha => res_none rfl ha) (fun _ _ ha' => ⟨⟨_, rfl⟩, ha.back (ha'.pck (by repeat (first | exact Pck.nil _ | exact Pck.refl _ | (apply Pck.cons; focus ((repeat (first | exact Rem.here _ | apply Rem.there)); done)) | refine Pck.skip _ ?_)))⟩)

end Go.Proofs.YthkbagikmbcphaaDoor.N
namespace Go.Proofs.YthkbagikmbcphaaDoor.N
open Go Go.RowKit Go.Proofs
/-! A drawn region in which yield is called. -/
section
variable {C : Ctx} {fr frC : List (Nat × Value)} {hp hp' : List Res} {a : Act} {w : World} {ops : Array Oper} {Q : Exit → Act → World → Prop} {rest : List Oper}
  {d : Nat} {ty : TypeId} {pos : String} {after : Array Edge} {r : Nat} {fuel : Nat} {listed listed' : Array Bool}
theorem opIn_of_lstW {i : Nat} {o : Oper} (hi : ops[i]? = some o) {K : Act → World → Prop} (h : LstW C ops (Exit.then K (OnlyN Q)) [o] fr hp) (ha : At C fr hp a w) : wpOpIn Fence.wide 0 C.P ops (OnlyN Q) i K a w := by
  have h := h a w ha
  unfold wpOpIn
  simp only [hi]
  simp only [wpListIn] at h
  split at h
  · rename_i hw
    rw [if_pos hw]
    refine ⟨h.1, ?_⟩
    have h := h.2
    generalize (o.semAt Fence.wide.round a.eval).run C.P w = r at *
    cases r with
    | ok n w' =>
      cases n <;> simp only [Oper.uponIn] at h ⊢ <;> first
        | exact h
        | exact ⟨h.1, CallsIn.mono h.2 (fun e w'' he => by cases e <;> exact he)⟩
        | exact ⟨h.1, RowsIn.mono h.2 (fun _ _ he => he)⟩
        | exact ⟨h.1, RoundIn.mono h.2 (fun e w'' he => by cases e <;> exact he)⟩
    | halt x w' => cases x <;> simp only [Oper.uponIn] at h ⊢ <;> exact h
  · rename_i hw
    rw [if_neg hw]
    exact h
def AnyW (C : Ctx) (ops : Array Oper) (Q : Exit → Act → World → Prop) (fuel : Nat) (listed : Array Bool) (fr : List (Nat × Value)) (hp : List Res) : Prop :=
  ∀ a w, At C fr hp a w → wpAnyIn Fence.wide 0 C.P .any ops (OnlyN Q) fuel listed a w
def NxtW (P : Program) (ops : Array Oper) (Q : Exit → Act → World → Prop) (fuel : Nat) (listed : Array Bool) (a : Act) (w : World) : Prop := wpAnyIn Fence.wide 0 P .any ops (OnlyN Q) fuel listed a w
theorem anyW_start {id : Nat} {l : List Oper} (hm : C.P.follows .mixedOrders = true) (n : Nat) (hn : l.length = n) (lst : List Bool) (hl : Array.replicate n false = lst.toArray) (h : AnyW C l.toArray Q n lst.toArray fr hp) : Cod C (.region id l.toArray true) Q fr hp := by
  intro a w ha
  refine wp_mono (Q := OnlyN Q) (wpIn_wide.1 (wpIn_region_any hm ?_ : Code.wpIn Fence.wide 0 C.P _ (OnlyN Q) a w)) ?_
  · have h1 := h a _ ha.drew
    rw [← hl] at h1
    simpa [hn] using h1
  · intro e a' w' he
    cases e with
    | normal => exact he
    | _ => exact he.elim
theorem anyW_done {rs : List Nat} (hr : Region.ready .any ops listed = rs) (h0 : rs = []) (h : Ex C Q .normal fr hp) : AnyW C ops Q fuel listed fr hp :=
  fun a w ha => wpAnyIn_done (hr.trans h0) (show OnlyN Q .normal a w from h a w ha) fuel
theorem anyW_ops {rs : List Nat} (hr : Region.ready .any ops listed = rs) (hne : rs ≠ []) (h : ∀ i ∈ rs, ∃ o, ops[i]? = some o ∧ LstW C ops (Exit.then (NxtW C.P ops Q fuel (listed.setIfInBounds i true)) (OnlyN Q)) [o] fr hp) : AnyW C ops Q (fuel + 1) listed fr hp := by
  intro a w ha
  refine wpAnyIn_all hr hne (fun i hi => ?_)
  obtain ⟨o, ho, hl⟩ := h i hi
  exact opIn_of_lstW ho hl ha
theorem exW_next {listed0 : Array Bool} {i : Nat} (hl : listed0.setIfInBounds i true = listed') (h : AnyW C ops Q fuel listed' fr hp) : Ex C (Exit.then (NxtW C.P ops Q fuel (listed0.setIfInBounds i true)) (OnlyN Q)) .normal fr hp :=
  fun a w ha => by rw [hl]; exact h a w ha
theorem anyW_less {fr' : List (Nat × Value)} (hs : Sub fr' fr) (hh : hp'.Sublist hp) (h : AnyW C ops Q fuel listed fr' hp') : AnyW C ops Q fuel listed fr hp := fun a w ha => h a w ((ha.drop_slots hs).drop_res hh)
/-- Operations that are none of yield. -/
theorem lstW_of_lst (hQ : ∀ a w, Q .outgrown a w → False) : ∀ (l : List Oper) (a : Act) (w : World), wpList C.P ops Q l a w → wpListIn Fence.wide 0 C.P ops Q l a w
  | [], a, w, h => h
  | o :: l, a, w, h => by
    have ih := lstW_of_lst hQ l
    simp only [wpList, wpListIn] at h ⊢
    split at h
    · rename_i hw
      rw [if_pos hw]
      rcases h with h | ⟨_, a', w', h⟩
      · refine ⟨fun _ _ => trivial, ?_⟩
        rw [show Fence.wide.round = none from rfl, Oper.semAt_none]
        unfold Oper.wp at h
        generalize (execOp a.eval o).run C.P w = x at h ⊢
        match x, h with
        | .ok (.value v) w', h => exact ih _ _ h
        | .ok .skip w', h => exact ih _ _ h
        | .ok (.defer d) w', h => exact ih _ _ h
        | .ok (.enter f args) w', h =>
          refine ⟨fun hd => by simp [Fence.wide] at hd, (callsIn_wide.2 h : CallsIn Fence.wide (0 - 1) C.P f args w' _).mono ?_⟩
          intro e w'' he
          cases e with
          | returned v => exact ih _ _ he
          | panicked ch => exact he
          | outgrown => exact he
        | .ok (.row row args) w', h => exact ⟨fun hd => by simp [Fence.wide] at hd, (rowsIn_wide (fun _ _ _ hs => stepsIn_wide.2 hs) h).mono fun v w'' he => ih _ _ he⟩
        | .halt (.panic v) w', h => exact h
      · exact (hQ a' w' h).elim
    · rename_i hw
      rw [if_neg hw]
      exact ⟨fun _ _ => trivial, ih _ _ h⟩
theorem lstW_of {l : List Oper} (hQ : ∀ a w, Q .outgrown a w → False) (h : Lst C ops Q l fr hp) : LstW C ops Q l fr hp := fun a w ha => lstW_of_lst hQ l a w (h a w ha)
theorem only_out {K : Act → World → Prop} : ∀ a w, Exit.then K (OnlyN Q) .outgrown a w → False := fun _ _ h => h

theorem lstW_on {dst : Option Tmp} {op : Op} {j t : Nat} {b : Bool} (hj : (ops[j]?).bind (·.dst) = some t) (hv : look fr t = some (.bool b))
    (k : LstW C ops Q (⟨dst, op, ty, pos, after, none⟩ :: rest) fr hp) : LstW C ops Q (⟨dst, op, ty, pos, after, some (j, b)⟩ :: rest) fr hp := by
  intro a w ha
  have h := k a w ha
  simp only [wpListIn] at h ⊢
  have e : Region.wanted ⟨dst, op, ty, pos, after, some (j, b)⟩ (yielded ops a.tmps) = true := by
    simp [Region.wanted, yields_of ha hj hv]
  have e' : Region.wanted ⟨dst, op, ty, pos, after, none⟩ (yielded ops a.tmps) = true := rfl
  rw [if_pos e'] at h
  rw [if_pos e]
  exact h
/-- A state that all orders come to. -/
theorem anyW_mid {fuelM : Nat} {listedM : Array Bool} {frM : List (Nat × Value)} {hpM : List Res} (hm : AnyW C ops Q fuelM listedM frM hpM)
    (h : (∀ fr' hp', Sub frM fr' → hpM.Sublist hp' → AnyW C ops Q fuelM listedM fr' hp') → AnyW C ops Q fuel listed fr hp) : AnyW C ops Q fuel listed fr hp := h (fun _ _ hs hh => anyW_less hs hh hm)
theorem codR_begin {id : Nat} {l : List Oper} {hpS : List Res} (bs : List Dk) (hm : C.P.follows .mixedOrders = true) (n : Nat) (hn : l.length = n) (lst : List Bool) (hl : Array.replicate n false = lst.toArray) (hno : (l.all fun o => match o.op with | .defer _ => false | _ => true) = true) [_hs : Drp bs hp hpS] (h : Any C l.toArray Q hpS n lst.toArray fr hp) :
    CodR C r (.region id l.toArray true) Q fr hp := by
  intro a w ha
  refine wpIn_mono (Q := OnlyN Q) (wpIn_region_draw fun t => ?_) ?_
  · refine opsR (fun a w h => h) ?_ _ _ _ ?_
    · intro i o ho c hc
      have hmem : o ∈ l := List.mem_of_getElem? (by simpa using ho)
      have := List.all_eq_true.1 hno o hmem
      rw [hc] at this
      cases this
    · simp only [Region.schedule, hm, Bool.true_or, if_true]
      refine wpAny_sound _ t _ a _ (wpAny_of_held (S := Mem C hpS) _ _ _ _ ?_)
      have h1 := h a _ ha.drew
      rw [← hl] at h1
      simpa [hn] using h1
  · intro e a' w' he
    cases e with
    | normal => exact he
    | _ => exact he.elim
/-! Rounds that turn what the iterator's caller owns. -/
theorem yield_in {X : Type} {frB : X → List (Nat × Value)} {hp1 : X → List Res} {P : Program} {B N0 N : Nat} {w0 : World} {ds0 : List Deferred} {frI : List (Nat × Value)} {hpI : List Res} {aI : Act} {rec : Loop} {v : Value} {R : Ending → World → Prop}
    (ha : At ⟨P, B, w0, N0, ds0⟩ frI (.blk r (.loop rec) :: hpI) aI w) (hready : rec.state = .ready) (hps : rec.params = #[d]) (hsz : rec.tmps.size = N) (hd : Nat.blt d N = true) (hsl : ∀ t u, look frC t = some u → rec.tmps.getD t undef = u)
    (hassign : ∀ K : Act → World → Prop, (∀ x, Ex ⟨P, B, w0, N, []⟩ (Exit.then K (fun _ _ _ => False)) .normal (frB x) (.blk r (.loop rec) :: hp1 x)) → CodR ⟨P, B, w0, N, []⟩ r rec.assign (Exit.then K (fun _ _ _ => False)) ((d, v) :: frC) (.blk r (.loop rec) :: hpI))
    (hbody : ∀ x, CodR ⟨P, B, w0, N, []⟩ r rec.body (roundPost P r R) (frB x) (.blk r (.loop { rec with state := .busy }) :: hp1 x)) : YieldAt Fence.wide 0 P r [v].toArray w R := by
  have hl := (ha.own _ (List.mem_cons_self ..)).2
  refine ⟨_, _, _, _, run_yield hl (by rw [hps]; simp), roundIn_of_wpIn trivial ?_⟩
  have e : (rec.params.zip [v].toArray).foldl (fun t (x : Tmp × Value) => t.setIfInBounds x.1 x.2) rec.tmps = rec.tmps.setIfInBounds d v := by rw [hps]; simp
  rw [e]
  have h0 : At ⟨P, B, w0, N, []⟩ frC (.blk r (.loop rec) :: hpI) { tmps := rec.tmps, defers := [] } w := ⟨hsz, rfl, hsl, ha.below, ha.base, ha.own, ha.apart⟩
  refine hassign _ ?_ _ _ (h0.put (lt_of_blt hd) v)
  intro x a w ha
  have hl1 := (ha.own _ (List.mem_cons_self ..)).2
  refine ⟨_, run_beginRound hl1 hready, ?_⟩
  have h1 := ha.putRec (rec' := { rec with state := .busy })
  exact hbody x a _ h1
theorem round_goes_in {P : Program} {B N : Nat} {w0 : World} {ds : List Deferred} {rec : Loop} {R : Ending → World → Prop} (hready : rec.state = .ready) (hpe : rec.pending = none)
    (k : ∀ a w, At ⟨P, B, w0, N, ds⟩ fr (.blk r (.loop rec) :: hp) a w → R (.returned (.bool true)) w) : Ex ⟨P, B, w0, N, ds⟩ (roundPost P r R) .normal fr (.blk r (.loop { rec with state := .busy }) :: hp) := by
  intro a w ha
  obtain ⟨st, pe, _, _, _, _, _, _⟩ := rec
  simp only at hready hpe
  subst hready; subst hpe
  have hr := run_endRound (P := P) none (ha.own _ (List.mem_cons_self ..)).2
  exact ⟨_, _, hr, k a _ ha.putRec⟩
theorem ex_pck {e : Exit} (hh : Pck hp' hp) (k : Ex C Q e fr hp') : Ex C Q e fr hp := fun a w ha => k a w (ha.pck hh)
/-- What a call of yield does to what its caller, and its caller's caller, owns. -/
def YSpecIn (P : Program) (B : Nat) (w0 : World) (r : Nat) (v : Value) (T T' : List Res) : Prop :=
  ∀ (N : Nat) (ds : List Deferred) (fr : List (Nat × Value)) (hp : List Res) (a : Act) (w : World), At ⟨P, B, w0, N, ds⟩ fr (hp ++ T) a w →
    YieldAt Fence.wide 0 P r [v].toArray w fun e w' => e = .returned (.bool true) ∧ At ⟨P, B, w0, N, ds⟩ fr (hp ++ T') a w'
theorem YSpecIn.more {P : Program} {B : Nat} {w0 : World} {v : Value} {x y z u : Res} {T T' : List Res} (h : YSpecIn P B w0 r v (y :: z :: u :: T) (y :: z :: u :: T')) : YSpecIn P B w0 r v (y :: z :: u :: x :: T) (y :: z :: u :: x :: T') := by
  have e : ∀ (hp T : List Res), (hp ++ (y :: z :: u :: x :: T)).Perm ((hp ++ [x]) ++ (y :: z :: u :: T)) := fun hp T => by
    rw [List.append_assoc]
    exact List.Perm.append_left hp (List.perm_middle (l₁ := [y, z, u]) (l₂ := T) (a := x))
  exact fun N ds fr hp a w ha => yieldAt_mono (h N ds fr (hp ++ [x]) a w (ha.permed (e hp T))) (fun _ _ hh => ⟨hh.1, hh.2.permed (e hp T').symm⟩)
theorem cod_range_in {P : Program} {B N : Nat} {w0 : World} {ds : List Deferred} {g : Operand} {ps : Array Tmp} {assign body : Code} {gf : FuncId} {lb : List Value} (hp1 : List Res) (hg : ev fr g = some (.func (.func gf) #[] lb.toArray)) (he : Enters P gf)
    (h : ∀ (r D : Nat) (rec : Loop) (a : Act) (w : World), rec.state = .ready → rec.pending = none → rec.params = ps → rec.assign = assign → rec.body = body → rec.tmps.size = N → (∀ t u, look fr t = some u → rec.tmps.getD t undef = u) →
      At ⟨P, B, w0, N, ds⟩ fr (.blk r (.loop rec) :: .blk D (.deferred (some [])) :: hp) a w →
      Calls P gf (#[.func (.yield r) #[] #[]] ++ lb.toArray) w fun e w' => (∃ v, e = .returned v) ∧ At ⟨P, B, w0, N, ds⟩ fr (.blk r (.loop rec) :: .blk D (.deferred (some [])) :: hp1) a w')
    (k : ∀ (D : Nat), Ex ⟨P, B, w0, N, { target := .collected D, args := #[] } :: ds⟩ Q .normal fr (.blk D (.deferred (some [])) :: hp1)) : Cod ⟨P, B, w0, N, ds⟩ (.rangeFunc g ps assign body) Q fr hp := by
  refine cod_range2 hg he (fun a w ha r D rec W1 hst hpe htm hps has hbo hr hD hR => ?_)
  refine (h r D rec a W1 hst hpe hps has hbo (by rw [htm]; exact ha.size) (fun t u hu => by rw [htm]; exact ha.slots t u hu) hR).mono ?_
  rintro e w3 ⟨hv, h3⟩
  refine ⟨hv, .ready, none, by simp, ?_, .inl ⟨rfl, ?_⟩⟩
  · have := (h3.own _ (List.mem_cons_self ..)).2
    rw [this]
    obtain ⟨st, pe, _, _, _, _, _, _⟩ := rec
    simp only at hst hpe
    subst hst; subst hpe
    rfl
  · have h4 := (h3.putRec (rec' := { rec with state := .exhausted, pending := none })).drop_res (List.Sublist.cons _ (List.Sublist.refl _))
    exact k D _ _ ⟨h4.size, congrArg (_ :: ·) ha.defs, h4.slots, h4.below, h4.base, h4.own, h4.apart⟩
theorem ex_marks_ret {P : Program} {B N D : Nat} {w0 : World} {fn : Func} {R : Ending → World → Prop} (e : Exit) (he : e = .ret ∨ e = .normal)
    (k : ∀ a w, At ⟨P, B, w0, N, [{ target := .collected D, args := #[] }]⟩ fr (.blk D (.deferred none) :: hp) a w → ∃ v, (results fn a.tmps).run P w = .ok v w ∧ R (.returned v) w) :
    Ex ⟨P, B, w0, N, [{ target := .collected D, args := #[] }]⟩ (bodyPostM Fence.wide 0 P fn R) e fr (.blk D (.deferred (some [])) :: hp) := by
  intro a w ha
  have key : LeavesInM Fence.wide 0 P fn a.tmps R a.defers .returning w := by
    rw [ha.defs]
    have hD := (ha.own _ (List.mem_cons_self ..)).2
    have at2 : At ⟨P, B, w0, N, [{ target := .collected D, args := #[] }]⟩ fr (.blk D (.deferred none) :: hp) a (w.putObj D (.deferred none)) := by
      refine ha.turn (Upd.head _) ⟨rfl, rfl, rfl, by simp, fun k _ hk => World.putObj_heap_other (fun e => hk (by rw [e]; rfl))⟩ ⟨(ha.own _ (List.mem_cons_self ..)).1, ?_⟩ (fun k hk => .inl hk)
      exact World.putObj_heap_same (Array.getElem?_eq_some_iff.1 hD).1
    obtain ⟨v, h1, h2⟩ := k _ _ at2
    exact ⟨by simp, .inl ⟨D, _, rfl, run_takeDeferred hD, ⟨v, h1, h2⟩⟩⟩
  rcases he with rfl | rfl <;> exact key
end
end Go.Proofs.YthkbagikmbcphaaDoor.N
